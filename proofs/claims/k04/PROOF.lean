import PyProof.Rows.All
import Wide.All
import OpenK.AllK
import Wide.FinOn
import KE.KStateDown
import Lean
import HandS.Base
import HandS.Call
import HandS.List
import HandS.Comp
import HandS.Flow
import HandS.Style
import HandS.Ends
import HandS.More
import HandS.Words
import HandS.WordsExc
import HandS.Defaults
import HandS.Iter
import HandS.Zip
import HandS.Text
import HandS.Wide
import HandS.IsInst
import HandS.ExcOwn
import HandS.TryMany
import HandS.Lambda
import HandS.EndTab
import HandS.HeadHook4
import HandS.TupAny
import KE.DataCmp
import KE.SortData
import KE.KExcSuper
import KE.KSuperObj
import HandS.ExcInit
import HandS.NestedK
import HandS.ExcField
import HandS.TupSets
import HandS.Conv
import HandS.Head0
import HandS.Head1
import HandS.Head2
import HandS.HeadEnd
import HandS.HeadHook1
import HandS.HeadHook2
import HandS.HeadHook3
import HandS.HeadWalk
import PySem.Challenge.RW_whoevermade_k04_whole_faces_judged
set_option Elab.async false
set_option linter.all false
set_option maxRecDepth 100000
/-! Dw1: plain data D, the objects that change (DM), how they stand in HandS's heap, and HandS's judgements told over them. -/
namespace Dw
open PySem PySem.Spec PyProof.Rows L2 LamX

/-- plain data: fnv is a lambda (its object, its code, where it was made), scr is the law's argument, lst is a list that nobody writes any more, ref an object that may be written, glo what a module's name stands for -/
inductive D where
  | non | bl (b : Bool) | int (i : Int) | str (x : List Nat)
  | tup (xs : List D) | lst (xs : List D) | ref (a : Addr) | glo (x : Str) | scr (xs : List D)
  | fnv (f c : Addr) (q : Str) (σ : List (Option V)) (δ : List (Option D))
/-- an object that may be written -/
inductive MO where
  | lst (ds : List D)
  | dct (kvs : List ((Int ⊕ List Nat) × D))
abbrev DM := Addr → Option MO
def updM (M : DM) (a : Addr) (o : MO) : DM := fun b => if b = a then some o else M b
theorem updM_same {M : DM} {a : Addr} {o : MO} : updM M a o a = some o := if_pos rfl
theorem updM_ne {M : DM} {a b : Addr} {o : MO} (h : b ≠ a) : updM M a o b = M b := if_neg h

def mkS (l : List Nat) : Str := ⟨l.toArray⟩
theorem mkS_cps (l : List Nat) : (mkS l).cps.toList = l := rfl
theorem mkS_len (l : List Nat) : (mkS l).length = l.length := by
  show l.toArray.size = l.length
  simp

/-- a text's codes -/
structure okS (l : List Nat) : Prop where
  z : l.length ≤ sizeLine
  c : ∀ c ∈ l, c < 1114112
/-- what the module's facts are -/
structure Gm where
  K : PySem.W.Frag
  mg : Str → Option Value

/-- a list that nobody writes: locked, or of the written part -/
def LsL (K : PySem.W.Frag) (H : Hp) (a : Addr) (xs : List V) : Prop := (∃ o, H a = some (.frz o (.lst xs))) ∨
  ∃ (o : Obj) (its : Array Value) (n : Nat), K.lookup a = some o ∧ o.cls = .type "list" ∧ o.dict = none ∧ o.data = .seq its n ∧ its.size ≤ sizeLine ∧ Vals xs its.toList
theorem LsL.sql {K : PySem.W.Frag} {H : Hp} {a : Addr} {xs : List V} (h : LsL K H a xs) : SqL K H a xs := by
  rcases h with ⟨o, h⟩ | h
  · exact .inl (.inr ⟨o, h⟩)
  · exact .inr h
section
variable (G : Gm) (H : Hp) (M : DM)
mutual
/-- the value v stands for the data d -/
inductive Rp : V → D → Prop where
  | non : Rp .non .non
  | bl (b : Bool) : Rp (.bl b) (.bl b)
  | int (i : Int) : Rp (.int i) (.int i)
  | str (l : List Nat) : okS l → Rp (.str (mkS l)) (.str l)
  | tup {a : Addr} {xs : List V} {ds : List D} : SqT G.K H a xs → ds.length ≤ sizeLine → Rps xs ds → Rp (.ref a) (.tup ds)
  | lst {a : Addr} {o : Obj} {xs : List V} {ds : List D} : H a = some (.frz o (.lst xs)) → ds.length ≤ sizeLine → Rps xs ds → Rp (.ref a) (.lst ds)
  | ref {a : Addr} {mo : MO} : M a = some mo → Rp (.ref a) (.ref a)
  | glo {x : Str} {a : Addr} : G.mg x = some (.ref a) → Rp (.ref a) (.glo x)
  | scr {a : Addr} {xs : List V} {ds : List D} : LsL G.K H a xs → ds.length ≤ sizeLine → Rps xs ds → Rp (.ref a) (.scr ds)
  | fnv {f c : Addr} {q : Str} {σ : List (Option V)} {δ : List (Option D)} : H c = some (CodeO c q) → RsO σ δ → Rp (.ref f) (.fnv f c q σ δ)
inductive Rps : List V → List D → Prop where
  | nil : Rps [] []
  | cons {v : V} {d : D} {vs : List V} {ds : List D} : Rp v d → Rps vs ds → Rps (v :: vs) (d :: ds)
/-- slots -/
inductive RsO : List (Option V) → List (Option D) → Prop where
  | nil : RsO [] []
  | skip {o : Option V} {σ : List (Option V)} {δ : List (Option D)} : RsO σ δ → RsO (o :: σ) (none :: δ)
  | keep {v : V} {d : D} {σ : List (Option V)} {δ : List (Option D)} : Rp v d → RsO σ δ → RsO (some v :: σ) (some d :: δ)
end
end

/-- what values see stands -/
structure Ext0 (K : PySem.W.Frag) (H : Hp) (M : DM) (H' : Hp) (M' : DM) : Prop where
  t : ∀ b xs, SqT K H b xs → SqT K H' b xs
  l : ∀ b o u, H b = some (.frz o u) → H' b = some (.frz o u)
  m : ∀ b mo, M b = some mo → ∃ mo', M' b = some mo'
  x : ∀ b fs, H b = some (.xd fs) → H' b = some (.xd fs)
  e : ∀ b (φ : Heap → Prop), H b = some (.ext φ) → H' b = some (.ext φ)
/-- what stood stands -/
structure Ext (K : PySem.W.Frag) (H : Hp) (M : DM) (H' : Hp) (M' : DM) : Prop extends Ext0 K H M H' M' where
  s : ∀ b xs, H b = some (.lst xs) → M b = none → H' b = some (.lst xs) ∧ M' b = none
theorem Ext0.refl {K : PySem.W.Frag} {H : Hp} {M : DM} : Ext0 K H M H M := ⟨fun _ _ h => h, fun _ _ _ h => h, fun _ mo h => ⟨mo, h⟩, fun _ _ h => h, fun _ _ h => h⟩
theorem Ext.refl {K : PySem.W.Frag} {H : Hp} {M : DM} : Ext K H M H M := ⟨.refl, fun _ _ h n => ⟨h, n⟩⟩
theorem Ext0.trans {K : PySem.W.Frag} {H H1 H2 : Hp} {M M1 M2 : DM} (a : Ext0 K H M H1 M1) (b : Ext0 K H1 M1 H2 M2) : Ext0 K H M H2 M2 where
  t := fun c xs h => b.t c xs (a.t c xs h)
  l := fun c o u h => b.l c o u (a.l c o u h)
  m := fun c mo h => let ⟨mo1, h1⟩ := a.m c mo h; b.m c mo1 h1
  x := fun c fs h => b.x c fs (a.x c fs h)
  e := fun c φ h => b.e c φ (a.e c φ h)
theorem Ext.trans {K : PySem.W.Frag} {H H1 H2 : Hp} {M M1 M2 : DM} (a : Ext K H M H1 M1) (b : Ext K H1 M1 H2 M2) : Ext K H M H2 M2 where
  toExt0 := a.toExt0.trans b.toExt0
  s := fun c xs h n => let ⟨h1, n1⟩ := a.s c xs h n; b.s c xs h1 n1

section
variable {G : Gm} {H H' : Hp} {M M' : DM}
mutual
theorem Rp.mono (e : Ext0 G.K H M H' M') : ∀ {v : V} {d : D}, Rp G H M v d → Rp G H' M' v d
  | _, _, .non => .non
  | _, _, .bl b => .bl b
  | _, _, .int i => .int i
  | _, _, .str l h => .str l h
  | _, _, .tup s z r => .tup (e.t _ _ s) z (Rps.mono e r)
  | _, _, .lst s z r => .lst (e.l _ _ _ s) z (Rps.mono e r)
  | _, _, .ref h => let ⟨_, h'⟩ := e.m _ _ h; .ref h'
  | _, _, .glo h => .glo h
  | _, _, .scr s z r => .scr (s.imp (fun ⟨o, q⟩ => ⟨o, e.l _ _ _ q⟩) id) z (Rps.mono e r)
  | _, _, .fnv h r => .fnv (e.e _ _ h) (RsO.mono e r)
theorem Rps.mono (e : Ext0 G.K H M H' M') : ∀ {vs : List V} {ds : List D}, Rps G H M vs ds → Rps G H' M' vs ds
  | _, _, .nil => .nil
  | _, _, .cons a r => .cons (Rp.mono e a) (Rps.mono e r)
theorem RsO.mono (e : Ext0 G.K H M H' M') : ∀ {σ : List (Option V)} {δ : List (Option D)}, RsO G H M σ δ → RsO G H' M' σ δ
  | _, _, .nil => .nil
  | _, _, .skip r => .skip (RsO.mono e r)
  | _, _, .keep a r => .keep (Rp.mono e a) (RsO.mono e r)
end
theorem Rps.length : ∀ {vs : List V} {ds : List D}, Rps G H M vs ds → vs.length = ds.length
  | _, _, .nil => rfl
  | _, _, .cons _ r => by simp only [List.length_cons, Rps.length r]
theorem Rps.get : ∀ {vs : List V} {ds : List D} {i : Nat} {d : D}, Rps G H M vs ds → ds[i]? = some d → ∃ v, vs[i]? = some v ∧ Rp G H M v d
  | _, _, i, d, .nil, e => by simp at e
  | _, _, 0, d, .cons a r, e => by simp at e; subst e; exact ⟨_, rfl, a⟩
  | _, _, i + 1, d, .cons a r, e => by
    obtain ⟨v, h1, h2⟩ := Rps.get (i := i) r (by simpa using e)
    exact ⟨v, by simpa using h1, h2⟩
theorem Rps.append : ∀ {vs vs' : List V} {ds ds' : List D}, Rps G H M vs ds → Rps G H M vs' ds' → Rps G H M (vs ++ vs') (ds ++ ds')
  | _, _, _, _, .nil, s => s
  | _, _, _, _, .cons a r, s => .cons a (Rps.append r s)
theorem Rps.take : ∀ {vs : List V} {ds : List D} (n : Nat), Rps G H M vs ds → Rps G H M (vs.take n) (ds.take n)
  | _, _, 0, _ => .nil
  | _, _, _ + 1, .nil => .nil
  | _, _, n + 1, .cons a r => .cons a (Rps.take n r)
theorem Rps.drop : ∀ {vs : List V} {ds : List D} (n : Nat), Rps G H M vs ds → Rps G H M (vs.drop n) (ds.drop n)
  | _, _, 0, r => r
  | _, _, _ + 1, .nil => .nil
  | _, _, n + 1, .cons _ r => Rps.drop n r
theorem Rps.reverse {vs : List V} {ds : List D} (r : Rps G H M vs ds) : Rps G H M vs.reverse ds.reverse := by
  induction ds generalizing vs with
  | nil => cases r; exact .nil
  | cons d ds ih =>
    cases r with
    | cons a r => rw [List.reverse_cons, List.reverse_cons]; exact (ih r).append (.cons a .nil)
theorem Rps.dropLast {vs : List V} {ds : List D} (r : Rps G H M vs ds) : Rps G H M vs.dropLast ds.dropLast := by
  rw [List.dropLast_eq_take, List.dropLast_eq_take, r.length]
  exact r.take _
theorem Rps.set {v : V} {d : D} (a : Rp G H M v d) : ∀ {vs : List V} {ds : List D} (i : Nat), Rps G H M vs ds → Rps G H M (vs.set i v) (ds.set i d)
  | _, _, _, .nil => .nil
  | _, _, 0, .cons _ r => .cons a r
  | _, _, i + 1, .cons b r => .cons b (Rps.set a i r)

theorem Rp.inv_str {v : V} {l : List Nat} (r : Rp G H M v (.str l)) : v = .str (mkS l) ∧ okS l := by cases r; exact ⟨rfl, by assumption⟩
theorem Rp.inv_int {v : V} {i : Int} (r : Rp G H M v (.int i)) : v = .int i := by cases r; rfl
theorem Rp.inv_bl {v : V} {b : Bool} (r : Rp G H M v (.bl b)) : v = .bl b := by cases r; rfl
theorem Rp.inv_non {v : V} (r : Rp G H M v .non) : v = .non := by cases r; rfl
theorem Rp.inv_tup {v : V} {ds : List D} (r : Rp G H M v (.tup ds)) : ∃ a xs, v = .ref a ∧ SqT G.K H a xs ∧ ds.length ≤ sizeLine ∧ Rps G H M xs ds := by
  cases r with
  | tup s z r => exact ⟨_, _, rfl, s, z, r⟩
theorem Rp.inv_lst {v : V} {ds : List D} (r : Rp G H M v (.lst ds)) : ∃ a xs, v = .ref a ∧ Rd H a (.lst xs) ∧ ds.length ≤ sizeLine ∧ Rps G H M xs ds := by
  cases r with
  | lst s z r => exact ⟨_, _, rfl, .inr ⟨_, s⟩, z, r⟩
theorem Rp.inv_ref {v : V} {a : Addr} (r : Rp G H M v (.ref a)) : v = .ref a ∧ ∃ mo, M a = some mo := by cases r; exact ⟨rfl, _, by assumption⟩
end

/-- the written objects stand -/
def dkK : Int ⊕ List Nat → Key
  | .inl i => .inl i
  | .inr x => .inr (mkS x)
def RMo (G : Gm) (H : Hp) (M : DM) (a : Addr) : MO → Prop
  | .lst ds => ∃ xs, H a = some (.lst xs) ∧ Rps G H M xs ds
  | .dct kvs => ∃ vs, H a = some (.dK vs) ∧ vs.map (·.1) = kvs.map (fun q => dkK q.1) ∧ Rps G H M (vs.map (·.2)) (kvs.map (·.2))
/-- the name of a lambda that the def q makes -/
def lamQ (q : Str) : Str := (envOfC q { kind := .function, names := [], isGenerator := false, isCoroutine := false } 0 0 .none).qual ++ "<lambda>"
/-- the defs' tables of code objects -/
def fnsK (K : PySem.W.Frag) : List (Addr × Str) := K.filterMap fun p => match p.2.data with
  | .func fd => (match fd.code with
    | .ref c => some (c, lamQ fd.qualname)
    | _ => none)
  | _ => none
def tabK (K : PySem.W.Frag) : List (Addr × Str) := (fnsK K).map fun p => (He.tabOf K p.1, p.2)
def csK (K : PySem.W.Frag) : List (Addr × Addr) := (fnsK K).map fun p => (p.1, He.tabOf K p.1)
theorem tabs_start {K : PySem.W.Frag} {H : Hp} (h : ∀ p ∈ csK K, H p.2 = some (.tbl #[])) : Tabs (tabK K) H := fun z hz => by
  obtain ⟨p, hp, rfl⟩ := List.mem_map.mp hz
  exact TabS.nil (h (p.1, He.tabOf K p.1) (List.mem_map.mpr ⟨p, hp, rfl⟩))
structure RM (G : Gm) (H : Hp) (M : DM) : Prop where
  o : ∀ a mo, M a = some mo → RMo G H M a mo
  t : Tabs (tabK G.K) H
/-- the tables stand when but a list changes -/
theorem tabs_set {T : List (Addr × Str)} {H : Hp} {p : Addr} {xs : List V} {o' : HO} (t : Tabs T H) (hp : H p = some (.lst xs)) : Tabs T (upd H p o') := fun z hz => by
  obtain ⟨ps, h1, h2, h3⟩ := t z hz
  have ne : ∀ b o, H b = some o → (∀ zs, o ≠ .lst zs) → b ≠ p := fun b o e y q => by
    subst q
    rw [hp] at e
    cases e
    exact y _ rfl
  refine ⟨ps, by rw [upd_ne (ne _ _ h1 fun _ q => nomatch q)]; exact h1, h2, fun pos cv hc => ?_⟩
  obtain ⟨c, e1, e2⟩ := h3 pos cv hc
  exact ⟨c, e1, by rw [upd_ne (ne _ _ e2 fun _ q => nomatch (show HO.ext _ = HO.lst _ from q))]; exact e2⟩
theorem tabs_new {T : List (Addr × Str)} {H : Hp} {p : Addr} {o : HO} (t : Tabs T H) (n : H p = none) : Tabs T (upd H p o) := t.ext fun b u e => by rw [upd_ne (ne_of_none e n)]; exact e
theorem RM.getL {G : Gm} {H : Hp} {M : DM} (r : RM G H M) {a : Addr} {ds : List D} (h : M a = some (.lst ds)) : ∃ xs, H a = some (.lst xs) ∧ Rps G H M xs ds := r.o a _ h
theorem RM.tracked {G : Gm} {H : Hp} {M : DM} (r : RM G H M) {a : Addr} {mo : MO} (h : M a = some mo) : H a ≠ none := by
  have q := r.o a mo h
  cases mo with
  | lst ds => obtain ⟨xs, e, _⟩ := q; rw [e]; simp
  | dct kvs => obtain ⟨xs, e, _, _⟩ := q; rw [e]; simp
theorem RM.free {G : Gm} {H : Hp} {M : DM} (r : RM G H M) {a : Addr} (h : H a = none) : M a = none := by
  cases q : M a with
  | none => rfl
  | some mo => exact absurd h (r.tracked q)

/-- what is new and tracked -/
theorem Rd.new {H : Hp} {p b : Addr} {o u : HO} (n : H p = none) (h : Rd H b u) : Rd (upd H p o) b u := by
  rcases h with h | ⟨z, h⟩
  · exact .inl (by rw [upd_ne (ne_of_none h n)]; exact h)
  · exact .inr ⟨z, by rw [upd_ne (ne_of_none h n)]; exact h⟩
theorem Rd.ne {H : Hp} {p b : Addr} {u : HO} (n : H p = none) (h : Rd H b u) : b ≠ p := by
  rcases h with h | ⟨z, h⟩
  · exact ne_of_none h n
  · exact ne_of_none h n
theorem Ext.new {K : PySem.W.Frag} {H : Hp} {M : DM} {p : Addr} {o : HO} (n : H p = none) : Ext K H M (upd H p o) M where
  t := fun b xs h => by
    rcases h with h | h
    · exact .inl (Rd.new n h)
    · exact .inr h
  l := fun b o u h => by rw [upd_ne (ne_of_none h n)]; exact h
  m := fun b mo h => ⟨mo, h⟩
  x := fun b fs h => by rw [upd_ne (ne_of_none h n)]; exact h
  e := fun b φ h => by rw [upd_ne (ne_of_none h n)]; exact h
  s := fun b xs h m => ⟨by rw [upd_ne (ne_of_none h n)]; exact h, m⟩
theorem RM.new {G : Gm} {H : Hp} {M : DM} (r : RM G H M) {p : Addr} {o : HO} (n : H p = none) : RM G (upd H p o) M := ⟨fun a mo h => by
  have q := r.o a mo h
  cases mo with
  | lst ds =>
    obtain ⟨xs, h1, h2⟩ := q
    exact ⟨xs, by rw [upd_ne (ne_of_none h1 n)]; exact h1, h2.mono (Ext.new n).toExt0⟩
  | dct kvs =>
    obtain ⟨xs, h1, hk, h2⟩ := q
    exact ⟨xs, by rw [upd_ne (ne_of_none h1 n)]; exact h1, hk, h2.mono (Ext.new n).toExt0⟩, tabs_new r.t n⟩
/-- a new list that may be written -/
theorem Ext.newM {K : PySem.W.Frag} {H : Hp} {M : DM} {p : Addr} {o : HO} {mo : MO} (n : H p = none) : Ext K H M (upd H p o) (updM M p mo) where
  t := (Ext.new (M := M) n).t
  l := (Ext.new (K := K) (M := M) n).l
  m := fun b m' h => by
    by_cases hb : b = p
    · subst hb; exact ⟨_, updM_same⟩
    · exact ⟨m', by rw [updM_ne hb]; exact h⟩
  x := (Ext.new (K := K) (M := M) n).x
  e := (Ext.new (K := K) (M := M) n).e
  s := fun b xs h m => ⟨by rw [upd_ne (ne_of_none h n)]; exact h, by rw [updM_ne (ne_of_none h n)]; exact m⟩
theorem RM.newL {G : Gm} {H : Hp} {M : DM} (r : RM G H M) {p : Addr} {xs : List V} {ds : List D} (n : H p = none) (q : Rps G H M xs ds) : RM G (upd H p (.lst xs)) (updM M p (.lst ds)) := ⟨fun a mo h => by
  by_cases ha : a = p
  · subst ha
    rw [updM_same] at h
    cases h
    exact ⟨xs, upd_same, q.mono (Ext.newM n).toExt0⟩
  · rw [updM_ne ha] at h
    have z := r.o a mo h
    cases mo with
    | lst ds =>
      obtain ⟨ys, h1, h2⟩ := z
      exact ⟨ys, by rw [upd_ne ha]; exact h1, h2.mono (Ext.newM n).toExt0⟩
    | dct kvs =>
      obtain ⟨ys, h1, hk, h2⟩ := z
      exact ⟨ys, by rw [upd_ne ha]; exact h1, hk, h2.mono (Ext.newM n).toExt0⟩, tabs_new r.t n⟩
/-- a list's content is nothing that values see -/
theorem Ext0.set {K : PySem.W.Frag} {H : Hp} {M M' : DM} {p : Addr} {xs : List V} {o' : HO} (hp : H p = some (.lst xs)) (hm : ∀ b mo, M b = some mo → ∃ mo', M' b = some mo') : Ext0 K H M (upd H p o') M' := by
  have ne : ∀ b o, H b = some o → (∀ zs, o ≠ .lst zs) → b ≠ p := fun b o e z q => by
    subst q
    rw [hp] at e
    cases e
    exact z _ rfl
  refine ⟨fun b zs e => ?_, fun b o u e => ?_, hm, fun b fs e => ?_, fun b φ e => ?_⟩
  · rcases e with (e | ⟨z, e⟩) | e
    · exact .inl (.inl (by rw [upd_ne (ne b _ e fun _ q => nomatch q)]; exact e))
    · exact .inl (.inr ⟨z, by rw [upd_ne (ne b _ e fun _ q => nomatch q)]; exact e⟩)
    · exact .inr e
  · rw [upd_ne (ne b _ e fun _ q => nomatch q)]; exact e
  · rw [upd_ne (ne b _ e fun _ q => nomatch q)]; exact e
  · rw [upd_ne (ne b _ e fun _ q => nomatch q)]; exact e
/-- a written list gets another content -/
theorem Ext.setM {G : Gm} {H : Hp} {M : DM} (r : RM G H M) {p : Addr} {ds ds' : List D} {ys : List V} (h : M p = some (.lst ds)) : Ext G.K H M (upd H p (.lst ys)) (updM M p (.lst ds')) := by
  obtain ⟨xs, hp, _⟩ := r.getL h
  refine ⟨.set hp fun b mo e => ?_, fun b zs e m => ?_⟩
  · by_cases hb : b = p
    · subst hb; exact ⟨_, updM_same⟩
    · exact ⟨mo, by rw [updM_ne hb]; exact e⟩
  · have hb : b ≠ p := fun q => by subst q; rw [h] at m; cases m
    exact ⟨by rw [upd_ne hb]; exact e, by rw [updM_ne hb]; exact m⟩
theorem RM.setL {G : Gm} {H : Hp} {M : DM} (r : RM G H M) {p : Addr} {ds ds' : List D} {ys : List V} (h : M p = some (MO.lst ds)) (q : Rps G H M ys ds') : RM G (upd H p (.lst ys)) (updM M p (MO.lst ds')) := ⟨fun a mo e => by
  by_cases ha : a = p
  · subst ha
    rw [updM_same] at e
    cases e
    exact ⟨ys, upd_same, q.mono (Ext.setM r h).toExt0⟩
  · rw [updM_ne ha] at e
    have z := r.o a mo e
    cases mo with
    | lst ds2 =>
      obtain ⟨zs, h1, h2⟩ := z
      exact ⟨zs, by rw [upd_ne ha]; exact h1, h2.mono (Ext.setM r h).toExt0⟩
    | dct kvs =>
      obtain ⟨zs, h1, hk, h2⟩ := z
      exact ⟨zs, by rw [upd_ne ha]; exact h1, hk, h2.mono (Ext.setM r h).toExt0⟩, let ⟨_, hp, _⟩ := r.getL h; tabs_set r.t hp⟩

/-! ### a list in the making: neither written by the program nor seen by values -/
section
variable {G : Gm} {H0 H : Hp} {M0 M : DM} {p : Addr} {xs : List V}
theorem Ext.setNew {K : PySem.W.Frag} {o' : HO} (e : Ext K H0 M0 H M) (n : H0 p = none) (hp : H p = some (.lst xs)) : Ext K H0 M0 (upd H p o') M where
  toExt0 := e.toExt0.trans (Ext0.set (M' := M) hp fun b mo h => ⟨mo, h⟩)
  s := fun b ys h m => by
    obtain ⟨h1, h2⟩ := e.s b ys h m
    exact ⟨by rw [upd_ne (ne_of_none h n)]; exact h1, h2⟩
theorem RM.setNew {o' : HO} (r : RM G H M) (m : M p = none) (hp : H p = some (.lst xs)) : RM G (upd H p o') M := ⟨fun a mo h => by
  have ha : a ≠ p := fun q => by subst q; rw [m] at h; cases h
  have q := r.o a mo h
  cases mo with
  | lst ds =>
    obtain ⟨ys, h1, h2⟩ := q
    exact ⟨ys, by rw [upd_ne ha]; exact h1, h2.mono (Ext0.set hp fun b mo h => ⟨mo, h⟩)⟩
  | dct kvs =>
    obtain ⟨ys, h1, hk, h2⟩ := q
    exact ⟨ys, by rw [upd_ne ha]; exact h1, hk, h2.mono (Ext0.set hp fun b mo h => ⟨mo, h⟩)⟩, tabs_set r.t hp⟩
theorem Ext.track {K : PySem.W.Frag} {mo : MO} (e : Ext K H0 M0 H M) (n : H0 p = none) : Ext K H0 M0 H (updM M p mo) where
  t := e.t
  l := e.l
  m := fun b m' h => by
    obtain ⟨m2, h2⟩ := e.m b m' h
    by_cases hb : b = p
    · subst hb; exact ⟨_, updM_same⟩
    · exact ⟨m2, by rw [updM_ne hb]; exact h2⟩
  x := e.x
  e := e.e
  s := fun b ys h m => let ⟨h1, h2⟩ := e.s b ys h m; ⟨h1, by rw [updM_ne (ne_of_none h n)]; exact h2⟩
theorem RM.track {ds : List D} (r : RM G H M) (m : M p = none) (hp : H p = some (.lst xs)) (rs : Rps G H M xs ds) : RM G H (updM M p (.lst ds)) := ⟨fun a mo h => by
  have e : Ext0 G.K H M H (updM M p (.lst ds)) := ⟨fun _ _ h => h, fun _ _ _ h => h, fun b mo h => by
    by_cases hb : b = p
    · subst hb; exact ⟨_, updM_same⟩
    · exact ⟨mo, by rw [updM_ne hb]; exact h⟩, fun _ _ h => h, fun _ _ h => h⟩
  by_cases ha : a = p
  · subst ha
    rw [updM_same] at h
    cases h
    exact ⟨xs, hp, rs.mono e⟩
  · rw [updM_ne ha] at h
    have q := r.o a mo h
    cases mo with
    | lst ds2 =>
      obtain ⟨ys, h1, h2⟩ := q
      exact ⟨ys, h1, h2.mono e⟩
    | dct kvs =>
      obtain ⟨ys, h1, hk, h2⟩ := q
      exact ⟨ys, h1, hk, h2.mono e⟩, r.t⟩
end

/-- the slots -/
abbrev DS := List (Option D)
structure RS (G : Gm) (H : Hp) (M : DM) (σ : L2.St) (δ : DS) : Prop where
  len : σ.length = δ.length
  at_ : ∀ (i : Nat) (d : D), δ[i]? = some (some d) → ∃ v, σ[i]? = some (some v) ∧ Rp G H M v d
theorem RS.mono {G : Gm} {H H' : Hp} {M M' : DM} {σ : L2.St} {δ : DS} (r : RS G H M σ δ) (e : Ext0 G.K H M H' M') : RS G H' M' σ δ :=
  ⟨r.len, fun i d h => let ⟨v, h1, h2⟩ := r.at_ i d h; ⟨v, h1, h2.mono e⟩⟩
theorem RS.set {G : Gm} {H : Hp} {M : DM} {σ : L2.St} {δ : DS} {v : V} {d : D} (r : RS G H M σ δ) (i : Nat) (a : Rp G H M v d) : RS G H M (σ.set i (some v)) (δ.set i (some d)) := by
  refine ⟨by rw [List.length_set, List.length_set]; exact r.len, fun j e h => ?_⟩
  by_cases hj : i = j
  · subst hj
    by_cases hi : i < δ.length
    · rw [List.getElem?_set_self hi] at h
      cases h
      exact ⟨v, List.getElem?_set_self (by rw [r.len]; exact hi), a⟩
    · rw [List.getElem?_eq_none (by rw [List.length_set]; omega)] at h
      cases h
  · rw [List.getElem?_set_ne hj] at h
    obtain ⟨w, h1, h2⟩ := r.at_ j e h
    exact ⟨w, by rw [List.getElem?_set_ne hj]; exact h1, h2⟩

theorem RS.of_o {G : Gm} {H : Hp} {M : DM} : ∀ {σ : L2.St} {δ : DS}, RsO G H M σ δ → RS G H M σ δ
  | _, _, .nil => ⟨rfl, fun i d h => by simp at h⟩
  | _, _, .skip r => by
    have ih := RS.of_o r
    refine ⟨by rw [List.length_cons, List.length_cons, ih.len], fun i d h => ?_⟩
    cases i with
    | zero => cases h
    | succ i => exact ih.at_ i d h
  | _, _, .keep a r => by
    have ih := RS.of_o r
    refine ⟨by rw [List.length_cons, List.length_cons, ih.len], fun i d h => ?_⟩
    cases i with
    | zero => cases h; exact ⟨_, rfl, a⟩
    | succ i => exact ih.at_ i d h
theorem RS.to_o {G : Gm} {H : Hp} {M : DM} : ∀ {σ : L2.St} {δ : DS}, RS G H M σ δ → RsO G H M σ δ
  | [], [], _ => .nil
  | [], _ :: _, r => by have := r.len; cases this
  | _ :: _, [], r => by have := r.len; cases this
  | o :: σ, none :: δ, r => .skip (RS.to_o ⟨by have := r.len; simpa using this, fun i d h => r.at_ (i + 1) d h⟩)
  | o :: σ, some d :: δ, r => by
    obtain ⟨v, h1, h2⟩ := r.at_ 0 d rfl
    have e : o = some v := by simpa using h1
    subst e
    exact .keep h2 (RS.to_o ⟨by have := r.len; simpa using this, fun i d h => r.at_ (i + 1) d h⟩)
/-- an exception: its class by the module's name, what it keeps as `at` -/
structure Exc where
  cls : Str
  at_ : Option D
def RX (G : Gm) (H : Hp) (M : DM) (e : Exc) (cls : Value) (d : Option Addr) : Prop :=
  ∃ C, cls = .ref C ∧ G.mg e.cls = some (.ref C) ∧ match e.at_ with
    | none => True
    | some y => ∃ dx fs v, d = some dx ∧ H dx = some (.xd fs) ∧ fs.lookup ("at" : Str) = some v ∧ Rp G H M v y

/-- readings over data -/
abbrev QD := D → DM → Prop
abbrev QX := Exc → DM → Prop
abbrev DTE := DS → DM → QX → QD → Prop
abbrev DTT := DS → DM → QX → (Bool → DM → Prop) → Prop
abbrev DTA := DS → DM → QX → (List D → DM → Prop) → Prop
structure DEnds where
  nx : DS → DM → Prop
  rt : QD
  bk : DS → DM → Prop := fun _ _ => False
  ct : DS → DM → Prop := fun _ _ => False
  ex : DS → QX := fun _ _ _ => False
abbrev DTS := DEnds → DS → DM → Prop

section
variable (G : Gm)
/-- a wish over data, told of values -/
def LQ (H : Hp) (M : DM) (Q : QD) : VK := fun v H' => ∃ d M', Ext G.K H M H' M' ∧ RM G H' M' ∧ Rp G H' M' v d ∧ Q d M'
def LT (H : Hp) (M : DM) (Q : Bool → DM → Prop) : Bool → Hp → Prop := fun b H' => ∃ M', Ext G.K H M H' M' ∧ RM G H' M' ∧ Q b M'
def LA (H : Hp) (M : DM) (Q : List D → DM → Prop) : List V → Hp → Prop := fun vs H' => ∃ ds M', Ext G.K H M H' M' ∧ RM G H' M' ∧ Rps G H' M' vs ds ∧ Q ds M'
def LX (H : Hp) (M : DM) (Q : QX) : XK := fun cls d H' => ∃ e M', Ext G.K H M H' M' ∧ RM G H' M' ∧ RX G H' M' e cls d ∧ Q e M'
def LS (H : Hp) (M : DM) (Q : DS → DM → Prop) : L2.St → Hp → Prop := fun σ H' => ∃ δ M', Ext G.K H M H' M' ∧ RM G H' M' ∧ RS G H' M' σ δ ∧ Q δ M'

def up (W : WX) (t : DTE) : TE := fun σ H Qv => ∃ δ M Q Qx, RM G H M ∧ RS G H M σ δ ∧ t δ M Qx Q ∧ (∀ v H', LQ G H M Q v H' → Qv v H') ∧ (∀ c d H', LX G H M Qx c d H' → W c d σ H')
def upT (W : WX) (t : DTT) : TT := fun σ H Qv => ∃ δ M Q Qx, RM G H M ∧ RS G H M σ δ ∧ t δ M Qx Q ∧ (∀ v H', LT G H M Q v H' → Qv v H') ∧ (∀ c d H', LX G H M Qx c d H' → W c d σ H')
def upA (W : WX) (t : DTA) : TA := fun σ H Qv => ∃ δ M Q Qx, RM G H M ∧ RS G H M σ δ ∧ t δ M Qx Q ∧ (∀ v H', LA G H M Q v H' → Qv v H') ∧ (∀ c d H', LX G H M Qx c d H' → W c d σ H')
/-- the ends of values are wide enough for the ends of data -/
structure EOk (H : Hp) (M : DM) (D : Ends) (E : DEnds) (W : WX) : Prop where
  nx : ∀ σ' H', LS G H M E.nx σ' H' → D.nx σ' H'
  rt : ∀ v H', LQ G H M E.rt v H' → D.rt v H'
  bk : ∀ σ' H', LS G H M E.bk σ' H' → D.bk σ' H'
  ct : ∀ σ' H', LS G H M E.ct σ' H' → D.ct σ' H'
  ex : ∀ δ' σ' c d H' M', Ext G.K H M H' M' → RM G H' M' → RS G H' M' σ' δ' → (∃ e, RX G H' M' e c d ∧ E.ex δ' e M') → W c d σ' H'
def upS (W : WX) (t : DTS) : TS := fun D σ H => ∃ δ M E, RM G H M ∧ RS G H M σ δ ∧ t E δ M ∧ EOk G H M D E W
end

/-- a wish that may lock what was made -/
def FQ (Q : VK) : VK := fun v H' => Q v H' ∨ ∃ d u, H' d = some u ∧ Mut (some u) ∧ ∀ od, Q v (upd H' d (.frz od u))
theorem FQ.ep {X : Cx} {pins : List (Addr × Obj)} {σ : L2.St} {Q : VK} {u : Value} {s : Shared} (h : EP X pins σ (FQ Q) u s) : EP X pins σ Q u s := by
  obtain ⟨v, H1, I, r, q | ⟨d, u, hd, mu, q⟩⟩ := h
  · exact ⟨v, H1, I, r, q⟩
  · obtain ⟨od, I1⟩ := I.lock hd mu
    exact ⟨v, _, I1, r, q od⟩
theorem pe_fz {X : Cx} {e : Expr} {t : TE} (h : PE X e t) : PE X e (fun σ H Q => t σ H (FQ Q)) := ⟨fun pins s σ H Q I q => thn (h.run pins s σ H _ I q) fun _ _ => FQ.ep⟩
theorem opr_fz {X : Cx} {f : Value → Value → Sem Value} {r : R2} (h : OpR X f r) : OpR X f (fun x y H Q => r x y H (FQ Q)) :=
  fun pins s σ H x y v u Q I rx ry q => thn (h pins s σ H x y v u _ I rx ry q) fun _ _ => FQ.ep
theorem callr_fz {X : Cx} {f : Value} {r : List V → Hp → VK → Prop} (h : CallR X f r) : CallR X f (fun xs H Q => r xs H (FQ Q)) :=
  fun pins s σ H xs us Q I rv q => thn (h pins s σ H xs us _ I rv q) fun _ _ => FQ.ep
theorem slr_fz {X : Cx} {r : V → Option Int → Option Int → Hp → VK → Prop} (h : SlR X r) : SlR X (fun x lo hi H Q => r x lo hi H (FQ Q)) :=
  fun pins s σ H x v vl vu lo hi sl Q I rx hs pl pu q => by
    obtain ⟨T, id, h1, h2, h3⟩ := h pins s σ H x v vl vu lo hi sl _ I rx hs pl pu q
    exact ⟨T, id, h1, h2, thn h3 fun _ _ => FQ.ep⟩
theorem upd_upd {H : Hp} {p : Addr} {o o' : HO} : upd (upd H p o) p o' = upd H p o' := by
  funext b
  unfold upd
  split <;> rfl
/-- a weaker reading -/
theorem pe_wk {X : Cx} {e : Expr} {t u : TE} (h : PE X e t) (w : ∀ σ H Q, u σ H Q → t σ H Q) : PE X e u := ⟨fun pins s σ H Q I q => h.run pins s σ H Q I (w σ H Q q)⟩
theorem pt_wk {X : Cx} {e : Expr} {t u : TT} (h : PT X e t) (w : ∀ σ H Q, u σ H Q → t σ H Q) : PT X e u := ⟨fun pins s σ H Q I q => h.run pins s σ H Q I (w σ H Q q)⟩
theorem pa_wk {X : Cx} {es : List Expr} {t u : TA} (h : PA X es t) (w : ∀ σ H Q, u σ H Q → t σ H Q) : PA X es u := ⟨fun p pins s σ H Q I q => h.run p pins s σ H Q I (w σ H Q q)⟩
theorem ps_wk {X : Cx} {e : Stmt} {t u : TS} (h : PS X e t) (w : ∀ D σ H, u D σ H → t D σ H) : PS X e u := ⟨fun pins s σ H D I q => h.run pins s σ H D I (w D σ H q)⟩
theorem pss_wk {X : Cx} {e : List Stmt} {t u : TS} (h : PSs X e t) (w : ∀ D σ H, u D σ H → t D σ H) : PSs X e u := ⟨fun pins s σ H D I q => h.run pins s σ H D I (w D σ H q)⟩
end Dw
set_option Elab.async false
set_option linter.all false
set_option maxRecDepth 100000
/-! Dw2: the small language E, S of the program's bodies and what it means over data: a predicate transformer. No machine in sight. -/
namespace Dw
open PySem

/-! ### operations on data -/
/-- the items of a sequence: by value, or written -/
def seqOf (M : DM) : D → Option (List D)
  | .tup ds => some ds
  | .lst ds => some ds
  | .ref a => match M a with
    | some (.lst ds) => some ds
    | _ => none
  | _ => none
def truthD (M : DM) : D → Option Bool
  | .non => some false
  | .bl b => some b
  | .int i => some (i != 0)
  | .str x => some (!x.isEmpty)
  | .tup ds => some (!ds.isEmpty)
  | .lst ds => some (!ds.isEmpty)
  | .ref a => match M a with
    | some (.lst ds) => some (!ds.isEmpty)
    | _ => none
  | .glo _ => none
  | .scr _ => none
  | .fnv .. => none
mutual
/-- == of data (no written objects within) -/
def eqD : D → D → Bool
  | .non, .non => true
  | .bl b, .bl c => b == c
  | .bl b, .int i => (if b then 1 else 0) == i
  | .int i, .bl b => i == (if b then 1 else 0)
  | .int i, .int j => i == j
  | .str x, .str y => x == y
  | .tup xs, .tup ys => eqDs xs ys
  | .lst xs, .lst ys => eqDs xs ys
  | _, _ => false
def eqDs : List D → List D → Bool
  | [], [] => true
  | x :: xs, y :: ys => eqD x y && eqDs xs ys
  | _, _ => false
end
mutual
/-- plain all through, and how deep -/
def plainD : D → Bool
  | .ref _ => false
  | .glo _ => false
  | .scr _ => false
  | .fnv .. => false
  | .tup xs => plainDs xs
  | .lst xs => plainDs xs
  | _ => true
def plainDs : List D → Bool
  | [] => true
  | x :: xs => plainD x && plainDs xs
end
mutual
def deepD : D → Nat
  | .tup xs => deepDs xs + 1
  | .lst xs => deepDs xs + 1
  | _ => 0
def deepDs : List D → Nat
  | [] => 0
  | x :: xs => max (deepD x) (deepDs xs)
end
/-- the value of a written list as a plain one -/
def flatR (M : DM) : D → D
  | .ref a => match M a with
    | some (.lst ds) => .lst ds
    | _ => .ref a
  | d => d
def okEq (x y : D) : Prop := plainD x = true ∧ plainD y = true ∧ min (deepD x) (deepD y) ≤ 180

def lexL : List Nat → List Nat → Bool
  | [], [] => false
  | [], _ :: _ => true
  | _ :: _, [] => false
  | x :: xs, y :: ys => if x = y then lexL xs ys else decide (x < y)

/-- which type a value is asked for -/
inductive Ty where
  | str | int | bool | tuple | list | dict
def isTy (M : DM) : D → Ty → Option Bool
  | .non, _ => some false
  | .bl _, .bool => some true
  | .bl _, .int => some true
  | .bl _, _ => some false
  | .int _, .int => some true
  | .int _, _ => some false
  | .str _, .str => some true
  | .str _, _ => some false
  | .tup _, .tuple => some true
  | .tup _, _ => some false
  | .lst _, .list => some true
  | .lst _, _ => some false
  | .ref a, t => match M a with
    | some (.lst _) => some (match t with
      | .list => true
      | _ => false)
    | _ => none
  | .glo _, _ => none
  | .scr _, _ => none
  | .fnv .., _ => none
def isTys (M : DM) (d : D) : List Ty → Option Bool
  | [] => some false
  | t :: ts => match isTy M d t with
    | some true => some true
    | some false => isTys M d ts
    | none => none

/-- arithmetic and joining -/
inductive Bop where
  | add | sub | mul | mod | fdiv | pow
def mulOk (i j : Int) : Prop := (-(2 ^ 64) < i ∧ i < 2 ^ 64) ∨ (-(2 ^ 64) < j ∧ j < 2 ^ 64)
/-- an operation's outcome: what is asked, and the value -/
def res (r : Option (Prop × D)) (M : DM) (Q : QD) : Prop := match r with
  | some (p, d) => p ∧ Q d M
  | none => False
def binR : Bop → D → D → Option (Prop × D)
  | .add, .int i, .int j => some (True, .int (i + j))
  | .add, .str x, .str y => some (x.length + y.length ≤ sizeLine, .str (x ++ y))
  | .add, .tup x, .tup y => some (x.length + y.length ≤ sizeLine, .tup (x ++ y))
  | .add, .lst x, .lst y => some (x.length + y.length ≤ sizeLine, .lst (x ++ y))
  | .sub, .int i, .int j => some (True, .int (i - j))
  | .mul, .int i, .int j => some (mulOk i j, .int (i * j))
  | .mul, .lst x, .int k => some (-(2 ^ 63) ≤ k ∧ k < 2 ^ 63 ∧ x.length * k.toNat ≤ sizeLine, .lst (List.replicate k.toNat x).flatten)
  | .mod, .int i, .int j => some (0 < j, .int (i % j))
  | .fdiv, .int i, .int j => some (0 < j ∧ j < 2 ^ 63, .int (i / j))
  | .pow, .int i, .int j => some (0 ≤ j ∧ j ≤ 1000000 ∧ i.natAbs < 2 ^ 64, .int (i ^ j.toNat))
  | _, _, _ => none

/-- comparisons -/
inductive Cop where
  | eq | ne | lt | le | gt | ge | isin | notin | is | isnot
mutual
/-- data that can be put in order, place by place -/
def alikeD : D → D → Bool
  | .non, .non => true
  | .bl _, .bl _ => true
  | .int _, .int _ => true
  | .str _, .str _ => true
  | .lst xs, .lst ys => alikeDs xs ys
  | .tup xs, .tup ys => alikeDs xs ys
  | _, _ => false
def alikeDs : List D → List D → Bool
  | x :: xs, y :: ys => alikeD x y && alikeDs xs ys
  | [], _ => true
  | _ :: _, [] => true
end
mutual
/-- x < y of alike data -/
def ltD : D → D → Bool
  | .bl a, .bl b => !a && b
  | .int i, .int j => decide (i < j)
  | .str x, .str y => lexL x y
  | .tup xs, .tup ys => ltDs xs ys
  | .lst xs, .lst ys => ltDs xs ys
  | _, _ => false
def ltDs : List D → List D → Bool
  | [], _ :: _ => true
  | x :: xs, y :: ys => if eqD x y = true then ltDs xs ys else ltD x y
  | _, [] => false
end
/-- x is None, True, False -/
def sameC : D → D → Option Bool
  | x, .non => some (match x with
    | .non => true
    | _ => false)
  | x, .bl c => some (match x with
    | .bl b => b == c
    | _ => false)
  | _, _ => none
def signOf : D → Option Nat
  | .str [c] => some c
  | _ => none
def okIn (x : D) (ds : List D) : Prop := plainD x = true ∧ plainDs ds = true ∧ min (deepDs ds) (deepD x) ≤ 180
/-- a dict's key -/
def keyD : D → Option (Int ⊕ List Nat)
  | .int i => some (.inl i)
  | .str x => some (.inr x)
  | _ => none
def getD : List ((Int ⊕ List Nat) × D) → Int ⊕ List Nat → Option D
  | [], _ => none
  | (k, d) :: r, j => if k = j then some d else getD r j
def inR (M : DM) (neg : Bool) (x y : D) : Option (Prop × D) :=
  match y with
  | .str s => (signOf x).map fun c => (True, .bl (neg != s.contains c))
  | .ref a => (match M a with
    | some (.lst ds) => some (okIn x ds, .bl (neg != ds.any fun z => eqD z x))
    | some (.dct kvs) => (keyD x).map fun k => (True, .bl (neg != (getD kvs k).isSome))
    | none => none)
  | y => (seqOf M y).map fun ds => (okIn x ds, .bl (neg != ds.any fun z => eqD z x))
def cmpR (M : DM) : Cop → D → D → Option (Prop × D)
  | .eq, x, y => some (okEq (flatR M x) (flatR M y), .bl (eqD (flatR M x) (flatR M y)))
  | .ne, x, y => some (okEq (flatR M x) (flatR M y), .bl (!eqD (flatR M x) (flatR M y)))
  | .lt, .int i, .int j => some (True, .bl (decide (i < j)))
  | .lt, .str x, .str y => some (True, .bl (lexL x y))
  | .lt, .tup x, .tup y => some (plainDs x = true ∧ plainDs y = true ∧ alikeDs x y = true ∧ min (deepDs x) (deepDs y) ≤ 180, .bl (ltDs x y))
  | .le, .int i, .int j => some (True, .bl (decide (i ≤ j)))
  | .gt, .int i, .int j => some (True, .bl (decide (j < i)))
  | .ge, .int i, .int j => some (True, .bl (decide (j ≤ i)))
  | .isin, x, y => inR M false x y
  | .notin, x, y => inR M true x y
  | .is, x, y => (sameC x y).map fun b => (True, .bl b)
  | .isnot, x, y => (sameC x y).map fun b => (True, .bl (!b))
  | _, _, _ => none

/-- the place of an index, from the front or from behind -/
def ixD (n : Nat) (i : Int) : Option Nat := if 0 ≤ i then (if i < n then some i.toNat else none) else if -(n : Int) ≤ i then some (i + n).toNat else none
def idxR (M : DM) (x : D) : D → Option (Prop × D)
  | .int k => (match x with
    | .str s => ((ixD s.length k).bind fun j => s[j]?).map fun c => (True, .str [c])
    | x => (seqOf M x).bind fun ds => ((ixD ds.length k).bind fun j => ds[j]?).map fun d => (True, d))
  | .str y => (match x with
    | .ref a => (match M a with
      | some (.dct kvs) => (getD kvs (.inr y)).map fun d => (True, d)
      | _ => none)
    | _ => none)
  | _ => none
/-- a slice's bound -/
def sixD (n d : Nat) : Option Int → Nat
  | none => d
  | some v => if v < 0 then (v + (n : Int)).toNat else min v.toNat n
def cutD {α : Type} (xs : List α) (lo hi : Option Int) : List α := (xs.drop (sixD xs.length 0 lo)).take (sixD xs.length xs.length hi - sixD xs.length 0 lo)
/-- a slice with a step that is not 1 -/
def stepD {α : Type} (xs : List α) (lo hi : Option Int) (st : Int) : List α :=
  (List.range (Builtin.Slice.slicePlaces (Builtin.Slice.sliceAdjust lo hi st xs.length).1 (Builtin.Slice.sliceAdjust lo hi st xs.length).2 st)).filterMap fun (k : Nat) => xs[((Builtin.Slice.sliceAdjust lo hi st xs.length).1 + (k : Int) * st).toNat]?
def stpR (x : D) (lo hi : Option Int) (st : Int) : Option (Prop × D) := match x with
  | .tup ds => some ((stepD ds lo hi st).length ≤ sizeLine, .tup (stepD ds lo hi st))
  | _ => none
/-- items of a list of numbers -/
def rangeD (lo : Int) (n : Nat) : List D := (List.range n).map fun (i : Nat) => D.int (lo + (i : Int))
/-- tuple(range(n)), list(range(n)) -/
def trgR (tup : Bool) (x : D) : Option (Prop × D) := match x with
  | .int n => some (-(2 ^ 62) ≤ n ∧ n < 2 ^ 62 ∧ n.toNat ≤ sizeLine, match tup with
    | true => .tup (rangeD 0 n.toNat)
    | false => .lst (rangeD 0 n.toNat))
  | _ => none
def intD (d : D) (P : Int → Prop) : Prop := match d with
  | .int i => P i
  | _ => False
def slcV (M : DM) (x : D) (l h : Option Int) : Option (Prop × D) := match x with
  | .str s => some (True, .str (cutD s l h))
  | .tup ds => some (True, .tup (cutD ds l h))
  | .lst ds => some (True, .lst (cutD ds l h))
  | .scr ds => some (True, .lst (cutD ds l h))
  | .ref a => match M a with
    | some (.lst ds) => some (True, .lst (cutD ds l h))
    | _ => none
  | _ => none

/-- an int's text -/
def intS (i : Int) : List Nat := (PySem.Str.ofString (toString i)).cps.toList

/-- built-in functions -/
inductive Blt where
  | len | int | str | abs | tuple | list | all | any | sum | max
def blsOf : List D → Option (List Bool)
  | [] => some []
  | .bl b :: ds => (blsOf ds).map (b :: ·)
  | _ => none
def intsOf : List D → Option (List Int)
  | [] => some []
  | .int i :: ds => (intsOf ds).map (i :: ·)
  | _ => none
def lenOf (M : DM) : D → Option Nat
  | .str x => some x.length
  | .tup ds => some ds.length
  | .lst ds => some ds.length
  | .ref a => match M a with
    | some (.lst ds) => some ds.length
    | _ => none
  | _ => none
def maxI : List Int → Int
  | [] => 0
  | [i] => i
  | i :: r => if maxI r > i then maxI r else i
def bltR (M : DM) : Blt → List D → Option (Prop × D)
  | .len, [x] => (lenOf M x).map fun n => (True, .int n)
  | .int, [.int i] => some (True, .int i)
  | .int, [.bl b] => some (True, .int (if b then 1 else 0))
  | .str, [.int i] => some (i.natAbs.log2 < 1920, .str (intS i))
  | .abs, [.int i] => some (True, .int (if i < 0 then -i else i))
  | .tuple, [x] => (seqOf M x).map fun ds => (True, .tup ds)
  | .list, [x] => (seqOf M x).map fun ds => (True, .lst ds)
  | .all, [.lst ds] => (blsOf ds).map fun bs => (True, .bl (bs.all id))
  | .any, [.lst ds] => (blsOf ds).map fun bs => (True, .bl (bs.any id))
  | .sum, [.lst ds] => (intsOf ds).map fun ns => (True, .int ns.sum)
  | .max, [.lst ds] => (intsOf ds).map fun ns => (ns ≠ [], .int (maxI ns))
  | _, _ => none

/-- methods of built-in types -/
inductive Mth where
  | append | pop | extend | join
def strsOf : List D → Option (List (List Nat))
  | [] => some []
  | .str x :: ds => (strsOf ds).map (x :: ·)
  | _ => none
def joinD (sep : List Nat) : List (List Nat) → List Nat
  | [] => []
  | [x] => x
  | x :: xs => x ++ sep ++ joinD sep xs
def resM (r : Option (Prop × D × DM)) (Q : QD) : Prop := match r with
  | some (p, d, M) => p ∧ Q d M
  | none => False
def lstAt (M : DM) (a : Addr) : Option (List D) := match M a with
  | some (.lst ds) => some ds
  | _ => none
def mthR (M : DM) : Mth → D → List D → Option (Prop × D × DM)
  | .append, .ref a, [x] => (lstAt M a).map fun ds => (ds.length < sizeLine, .non, updM M a (.lst (ds ++ [x])))
  | .pop, .ref a, [] => (lstAt M a).bind fun ds => ds.getLast?.map fun d => (True, d, updM M a (.lst ds.dropLast))
  | .extend, .ref a, [.lst xs] => (lstAt M a).map fun ds => (ds.length + xs.length ≤ sizeLine, .non, updM M a (.lst (ds ++ xs)))
  | .extend, .ref a, [.tup xs] => (lstAt M a).map fun ds => (ds.length + xs.length ≤ sizeLine, .non, updM M a (.lst (ds ++ xs)))
  | .join, .str sep, [.lst xs] => (strsOf xs).map fun ss => ((joinD sep ss).length + sep.length ≤ sizeLine, .str (joinD sep ss), M)
  | _, _, _ => none

/-- what the receiver must be -/
def rcvOk (M : DM) (m : Mth) (d : D) : Prop := match m with
  | .join => ∃ s, d = .str s
  | _ => ∃ a ds, d = .ref a ∧ M a = some (.lst ds)
/-! ### the language -/
/-- targets -/
inductive T where
  | var (i : Nat)
  | tup (ts : List T)
mutual
inductive E where
  | var (i : Nat)
  | lit (d : D)
  | glo (x : Str) (d : D)
  | tup (es : List E)
  | lst (m : Bool) (es : List E)
  | bin (o : Bop) (a b : E)
  | neg (a : E)
  | not (a : E)
  | cmp (o : Cop) (a b : E)
  | cmp2 (o o' : Cop) (a b c : E)
  | and (a b : E)
  | or (a b : E)
  | ife (c a b : E)
  | call (f : Nat) (as : List E)
  | lam (f : Nat) (b : E)
  | act
  | blt (b : Blt) (as : List E)
  | isi (a : E) (ts : List Ty)
  | mth (m : Mth) (o : E) (as : List E)
  | idx (a i : E)
  | slc (a : E) (lo hi : Option E)
  | rev (m : Bool) (a : E)
  | stp (a : E) (lo hi : Option Int) (st : Int)
  | sst (a : E)
  | trg (tup : Bool) (a : E)
  | dlt (kvs : List ((Int ⊕ List Nat) × D))
  | spl (s t : List Nat) (ws : List (List Nat))
  | lc (m : Bool) (e : E) (own : List Nat) (t : T) (it : I) (cs : List E)
/-- what a loop walks -/
inductive I where
  | seq (e : E)
  | rng1 (e : E)
  | rng2 (a b : E)
  | enum (e : E)
  | zip (a b : E)
end
/-- an except suite: return | name = what the exception keeps, tagged or not -/
inductive Su where
  | ret (t : Option D)
  | set (j : Nat) (t : Option D)
/-- a clause: the class's name, the name's slot, the classes that it takes -/
structure Cz where
  c : Str
  i : Nat
  hit : List Str
  su : Su
inductive S where
  | set (i : Nat) (e : E)
  | setT (t : T) (e : E)
  | par (is : List Nat) (es : List E)
  | setI (o i e : E)
  | aug (i : Nat) (o : Bop) (e : E)
  | ex (e : E)
  | ret (e : E)
  | retN
  | iff (c : E) (a b : List S)
  | whl (c : E) (b : List S)
  | for_ (t : T) (it : I) (b : List S)
  | raise (x : Str) (e : E)
  | try_ (b : List S) (all : List Str) (hs : List Cz)
  | pass
  | brk
  | cont

/-- a def's call: its number, its arguments; a def that gets a lambda: its number, what the lambda does; the lambda's call within -/
structure Calls where
  run : Nat → List D → DM → QX → QD → Prop
  lam : Nat → (DM → QX → QD → Prop) → DM → QX → QD → Prop
  act : D → DM → QX → QD → Prop

def negR : D → Option (Prop × D)
  | .int i => some (True, .int (-i))
  | _ => none
def notR (M : DM) (x : D) : Option (Prop × D) := (truthD M x).map fun b => (True, .bl (!b))
def isiR (M : DM) (x : D) (ts : List Ty) : Option (Prop × D) := (isTys M x ts).map fun b => (True, .bl b)
/-- by a value's truth -/
def ifD (M : DM) (x : D) (P R : Prop) : Prop := match truthD M x with
  | some true => P
  | some false => R
  | none => False
/-- a new list: by value, or written -/
def newL (m : Bool) (ds : List D) (M : DM) (Q : QD) : Prop :=
  if m = true then ∀ a, M a = none → Q (.ref a) (updM M a (.lst ds)) else Q (.lst ds) M

/-- sorted(set(x)): pairs of texts, or texts -/
def okSst (ds : List D) : Prop := ds.length < 63 ∧ ((∀ d ∈ ds, ∃ x y, d = .tup [.str x, .str y]) ∨ ∀ d ∈ ds, ∃ x, d = .str x)
def SSet (ds es : List D) : Prop := es.Pairwise (fun x y => ltD x y = true) ∧ ∀ d, d ∈ es ↔ d ∈ ds
def sstP (x : D) (M : DM) (Q : QD) : Prop := match x with
  | .tup ds => okSst ds ∧ ∀ es, SSet ds es → Q (.lst es) M
  | .lst ds => okSst ds ∧ ∀ es, SSet ds es → Q (.lst es) M
  | _ => False
/-- x[::-1] -/
def revP (m : Bool) (x : D) (M : DM) (Q : QD) : Prop := match x with
  | .lst ds => newL m ds.reverse M Q
  | _ => False
def lookD (δ : DS) (i : Nat) : Option D := match δ[i]? with
  | some (some d) => some d
  | _ => none
mutual
/-- a target takes a value -/
def tgT : T → D → DS → (DS → Prop) → Prop
  | .var i, d, δ, R => R (δ.set i (some d))
  | .tup ts, d, δ, R => (match d with
    | .tup ds => ds.length = ts.length ∧ tgTs ts ds δ R
    | _ => False)
def tgTs : List T → List D → DS → (DS → Prop) → Prop
  | [], ds, δ, R => (match ds with
    | [] => R δ
    | _ :: _ => False)
  | t :: ts, ds, δ, R => (match ds with
    | d :: ds => tgT t d δ fun δ' => tgTs ts ds δ' R
    | [] => False)
end
def wipeD (δ : DS) : List Nat → DS
  | [] => δ
  | v :: vs => (wipeD δ vs).set v none

/-- the turns of a comprehension: G stands at each turn -/
def lcTurns (tg : D → DS → (DS → Prop) → Prop) (test : DS → DM → QX → (Bool → DM → Prop) → Prop) (elt : DTE) (G : DM → Prop) (δ : DS) (Qx : QX) (Q : List D → DM → Prop) : List D → List D → DM → Prop
  | [], acc, M => G M ∧ Q acc M
  | d :: ds, acc, M => G M ∧ tg d δ fun δ' => test δ' M Qx fun b M' => match b with
    | true => elt δ' M' Qx fun y M'' => lcTurns tg test elt G δ Qx Q ds (acc ++ [y]) M''
    | false => lcTurns tg test elt G δ Qx Q ds acc M'
/-- the turns of a for -/
def forTurns (tg : D → DS → (DS → Prop) → Prop) (body : DTS) (G : DM → Prop) (E : DEnds) : List D → DS → DM → Prop
  | [], δ, M => G M ∧ E.nx δ M
  | d :: ds, δ, M => G M ∧ tg d δ fun δ' => body { E with nx := forTurns tg body G E ds, ct := forTurns tg body G E ds, bk := E.nx } δ' M

def enumD (k : Nat) : List D → List D
  | [] => []
  | d :: ds => .tup [.int k, d] :: enumD (k + 1) ds
def zipD : List D → List D → List D
  | x :: xs, y :: ys => .tup [x, y] :: zipD xs ys
  | _, _ => []

/-- what a loop walks: what is asked, the items, what must stand at each turn -/
def resI (r : Option (Prop × List D × (DM → Prop))) (R : List D → (DM → Prop) → DM → Prop) (M : DM) : Prop := match r with
  | some (p, ds, G) => p ∧ R ds G M
  | none => False
def anyM : DM → Prop := fun _ => True
def seqI (M : DM) : D → Option (Prop × List D × (DM → Prop))
  | .tup ds => some (True, ds, anyM)
  | .lst ds => some (True, ds, anyM)
  | .ref a => match M a with
    | some (.lst ds) => some (True, ds, fun M' => M' a = some (.lst ds))
    | _ => none
  | .str s => some (True, s.map fun c => D.str [c], anyM)
  | _ => none
def rngI : D → D → Option (Prop × List D × (DM → Prop))
  | .int lo, .int hi => some ((-(2 ^ 62) ≤ lo ∧ lo < 2 ^ 62 ∧ -(2 ^ 62) ≤ hi ∧ hi < 2 ^ 62) ∧ (hi - lo).toNat ≤ sizeLine, rangeD lo (hi - lo).toNat, anyM)
  | _, _ => none
def enumI : D → Option (Prop × List D × (DM → Prop))
  | .lst ds => some (True, enumD 0 ds, anyM)
  | _ => none
def zipI : D → D → Option (Prop × List D × (DM → Prop))
  | .tup xs, .tup ys => some (True, zipD xs ys, anyM)
  | .lst xs, .lst ys => some (True, zipD xs ys, anyM)
  | _, _ => none

section
variable (C : Calls)
mutual
def wpE : E → DTE
  | .var i, δ, M, _, Q => res ((lookD δ i).map fun d => (True, d)) M Q
  | .lit d, _, M, _, Q => Q d M
  | .glo _ d, _, M, _, Q => Q d M
  | .tup es, δ, M, Qx, Q => wpA es δ M Qx fun ds M1 => Q (.tup ds) M1
  | .lst m es, δ, M, Qx, Q => wpA es δ M Qx fun ds M1 => newL m ds M1 Q
  | .bin o a b, δ, M, Qx, Q => wpE a δ M Qx fun x M1 => wpE b δ M1 Qx fun y M2 => res (binR o x y) M2 Q
  | .neg a, δ, M, Qx, Q => wpE a δ M Qx fun x M1 => res (negR x) M1 Q
  | .not a, δ, M, Qx, Q => wpE a δ M Qx fun x M1 => res (notR M1 x) M1 Q
  | .cmp o a b, δ, M, Qx, Q => wpE a δ M Qx fun x M1 => wpE b δ M1 Qx fun y M2 => res (cmpR M2 o x y) M2 Q
  | .cmp2 o o' a b c, δ, M, Qx, Q => wpE a δ M Qx fun x M1 => wpE b δ M1 Qx fun y M2 => res (cmpR M2 o x y) M2 fun z M3 => ifD M3 z (wpE c δ M3 Qx fun w M4 => res (cmpR M4 o' y w) M4 Q) (Q (.bl false) M3)
  | .and a b, δ, M, Qx, Q => wpE a δ M Qx fun x M1 => ifD M1 x (wpE b δ M1 Qx Q) (Q x M1)
  | .or a b, δ, M, Qx, Q => wpE a δ M Qx fun x M1 => ifD M1 x (Q x M1) (wpE b δ M1 Qx Q)
  | .ife c a b, δ, M, Qx, Q => wpE c δ M Qx fun x M1 => ifD M1 x (wpE a δ M1 Qx Q) (wpE b δ M1 Qx Q)
  | .call f as, δ, M, Qx, Q => wpA as δ M Qx fun ds M1 => C.run f ds M1 Qx Q
  | .lam f b, δ, M, Qx, Q => C.lam f (fun M1 Qx1 Q1 => wpE b δ M1 Qx1 Q1) M Qx Q
  | .act, δ, M, Qx, Q => (match lookD δ 0 with
    | some d => C.act d M Qx Q
    | none => False)
  | .blt b as, δ, M, Qx, Q => wpA as δ M Qx fun ds M1 => res (bltR M1 b ds) M1 Q
  | .isi a ts, δ, M, Qx, Q => wpE a δ M Qx fun x M1 => res (isiR M1 x ts) M1 Q
  | .mth m o as, δ, M, Qx, Q => wpE o δ M Qx fun x M1 => rcvOk M1 m x ∧ wpA as δ M1 Qx fun ds M2 => resM (mthR M2 m x ds) Q
  | .idx a i, δ, M, Qx, Q => wpE a δ M Qx fun x M1 => wpE i δ M1 Qx fun y M2 => res (idxR M2 x y) M2 Q
  | .slc a lo hi, δ, M, Qx, Q => wpE a δ M Qx fun x M1 => wpO lo δ M1 Qx fun l M2 => wpO hi δ M2 Qx fun h M3 => res (slcV M3 x l h) M3 Q
  | .rev m a, δ, M, Qx, Q => wpE a δ M Qx fun x M1 => revP m x M1 Q
  | .stp a lo hi st, δ, M, Qx, Q => wpE a δ M Qx fun x M1 => res (stpR x lo hi st) M1 Q
  | .sst a, δ, M, Qx, Q => wpE a δ M Qx fun x M1 => sstP x M1 Q
  | .trg tup a, δ, M, Qx, Q => wpE a δ M Qx fun x M1 => res (trgR tup x) M1 Q
  | .spl _ _ ws, _, M, _, Q => Q (.lst (ws.map D.str)) M
  | .dlt kvs, _, M, _, Q => ∀ p, M p = none → Q (.ref p) (updM M p (.dct kvs))
  | .lc m e own t it cs, δ, M, Qx, Q => wpI it δ M Qx fun ds G M1 => lcTurns (tgT t) (wpC cs) (wpE e) G (wipeD δ own) (fun _ _ => False) (fun ys M2 => newL m ys M2 Q) ds [] M1
def wpO : Option E → DS → DM → QX → (Option Int → DM → Prop) → Prop
  | none, _, M, _, Q => Q none M
  | some e, δ, M, Qx, Q => wpE e δ M Qx fun d M1 => intD d fun i => Q (some i) M1
def wpA : List E → DTA
  | [], _, M, _, Q => Q [] M
  | e :: es, δ, M, Qx, Q => wpE e δ M Qx fun d M1 => wpA es δ M1 Qx fun ds M2 => Q (d :: ds) M2
/-- a comprehension's tests -/
def wpC : List E → DTT
  | [], _, M, _, Q => Q true M
  | e :: es, δ, M, Qx, Q => wpE e δ M Qx fun x M1 => ifD M1 x (wpC es δ M1 Qx Q) (Q false M1)
/-- the items that a loop walks, and what must stand at each turn -/
def wpI : I → DS → DM → QX → (List D → (DM → Prop) → DM → Prop) → Prop
  | .seq e, δ, M, Qx, R => wpE e δ M Qx fun x M1 => resI (seqI M1 x) R M1
  | .rng1 e, δ, M, Qx, R => wpE e δ M Qx fun x M1 => resI (rngI (.int 0) x) R M1
  | .rng2 a b, δ, M, Qx, R => wpE a δ M Qx fun x M1 => wpE b δ M1 Qx fun y M2 => resI (rngI x y) R M2
  | .enum e, δ, M, Qx, R => wpE e δ M Qx fun x M1 => resI (enumI x) R M1
  | .zip a b, δ, M, Qx, R => wpE a δ M Qx fun x M1 => wpE b δ M1 Qx fun y M2 => resI (zipI x y) R M2
end

def setR (M : DM) (x y v : D) : Option (Prop × D × DM) := match x, y with
  | .ref a, .int k => (lstAt M a).bind fun ds => (ixD ds.length k).map fun j => (True, .non, updM M a (.lst (ds.set j v)))
  | _, _ => none
/-- += and -= of names -/
def augR : Bop → D → D → Option (Prop × D)
  | .add, .int i, .int j => some (True, .int (i + j))
  | .sub, .int i, .int j => some (True, .int (i - j))
  | .add, .str x, .str y => some (x.length + y.length ≤ sizeLine, .str (x ++ y))
  | _, _, _ => none
def setDs : List Nat → List D → DS → DS
  | i :: is, d :: ds, δ => setDs is ds (δ.set i (some d))
  | _, _, δ => δ

def tagD (t : Option D) (y : D) : D := match t with
  | none => y
  | some x => .tup [x, y]
def suW (su : Su) (i : Nat) (y : D) (E : DEnds) (δ : DS) (M : DM) : Prop := match su with
  | .ret t => E.rt (tagD t y) M
  | .set j t => E.nx (((δ.set i none).set j (some (tagD t y))).set i none) M
/-- which clause takes the exception -/
def clW (E : DEnds) (δ : DS) (e : Exc) (M : DM) : List Cz → Prop
  | [] => E.ex δ e M
  | z :: zs => match z.hit.contains e.cls with
    | true => (match e.at_ with
      | some y => suW z.su z.i y E δ M
      | none => False)
    | false => clW E δ e M zs
/-- a while: a word over a measure -/
def whlW (c : DTT) (body : DTS) (E : DEnds) (δ : DS) (M : DM) : Prop :=
  ∃ W : Nat → DS → DM → Prop, (∃ m, W m δ M) ∧ ∀ m δ M, W m δ M → c δ M (E.ex δ) fun b M1 => match b with
    | true => body { E with nx := fun δ' M' => ∃ m', m' < m ∧ W m' δ' M', ct := fun δ' M' => ∃ m', m' < m ∧ W m' δ' M', bk := E.nx } δ M1
    | false => E.nx δ M1
def wpT (c : E) : DTT := fun δ M Qx Q => wpE C c δ M Qx fun x M1 => ifD M1 x (Q true M1) (Q false M1)
mutual
def wpS : S → DTS
  | .set i e, E, δ, M => wpE C e δ M (E.ex δ) fun x M1 => E.nx (δ.set i (some x)) M1
  | .setT t e, E, δ, M => wpE C e δ M (E.ex δ) fun x M1 => tgT t x δ fun δ' => E.nx δ' M1
  | .par is es, E, δ, M => wpA C es δ M (E.ex δ) fun ds M1 => E.nx (setDs is ds δ) M1
  | .setI o i e, E, δ, M => wpE C e δ M (E.ex δ) fun v M1 => wpE C o δ M1 (E.ex δ) fun x M2 => wpE C i δ M2 (E.ex δ) fun y M3 => resM (setR M3 x y v) fun _ M4 => E.nx δ M4
  | .aug i o e, E, δ, M => wpE C (.var i) δ M (E.ex δ) fun x M1 => wpE C e δ M1 (E.ex δ) fun y M2 => res (augR o x y) M2 fun z M3 => E.nx (δ.set i (some z)) M3
  | .ex e, E, δ, M => wpE C e δ M (E.ex δ) fun _ M1 => E.nx δ M1
  | .ret e, E, δ, M => wpE C e δ M (E.ex δ) E.rt
  | .retN, E, _, M => E.rt .non M
  | .iff c a b, E, δ, M => wpT C c δ M (E.ex δ) fun k M1 => (match k with
    | true => wpSs a E δ M1
    | false => wpSs b E δ M1)
  | .whl c b, E, δ, M => whlW (wpT C c) (wpSs b) E δ M
  | .for_ t it b, E, δ, M => wpI C it δ M (E.ex δ) fun ds G M1 => forTurns (tgT t) (wpSs b) G E ds δ M1
  | .raise x e, E, δ, M => wpE C e δ M (E.ex δ) fun d M1 => E.ex δ ⟨x, some d⟩ M1
  | .try_ b all hs, E, δ, M => wpSs b { E with ex := fun δ' e M' => all.contains e.cls = true ∧ clW E δ' e M' hs } δ M
  | .pass, E, δ, M => E.nx δ M
  | .brk, E, δ, M => E.bk δ M
  | .cont, E, δ, M => E.ct δ M
def wpSs : List S → DTS
  | [], E, δ, M => E.nx δ M
  | s :: ss, E, δ, M => wpS s { E with nx := wpSs ss E } δ M
end
end

/-- a def: its slots' names, its number of parameters, its body; gc: what it makes and may write is forgotten behind it -/
structure Fn where
  name : Str
  N : List Str
  ps : Nat
  gc : Bool
  hd : Bool := false
  body : List S
abbrev Pg := List Fn
def start (f : Fn) (ds : List D) : DS := ds.map some ++ List.replicate (f.N.length - ds.length) none
def Kept (M M1 : DM) : Prop := ∀ a mo, M a = some mo → M1 a = some mo
def backQ (gc : Bool) (M : DM) (Q : QD) : QD := match gc with
  | true => fun d M1 => plainD d = true ∧ Kept M M1 ∧ Q d M
  | false => Q
def backX (gc : Bool) (M : DM) (Q : QX) : QX := match gc with
  | true => fun e M1 => e.at_.all plainD = true ∧ Kept M M1 ∧ Q e M
  | false => Q
/-- the calls of a program, k deep -/
def callW (P : Pg) : Nat → Calls
  | 0 => ⟨fun _ _ _ _ _ => False, fun _ _ _ _ _ => False, fun _ _ _ _ => False⟩
  | k + 1 => {
    run := fun i ds M Qx Q => match P[i]? with
      | none => False
      | some f => f.hd = false ∧ ds.length = f.ps ∧ wpSs (callW P k) f.body { nx := fun _ M1 => backQ f.gc M Q .non M1, rt := backQ f.gc M Q, ex := fun _ => backX f.gc M Qx } (start f ds) M
    lam := fun i a M Qx Q => match P[i]? with
      | none => False
      | some f => f.hd = true ∧ ∀ v, wpSs { callW P k with act := fun d M Qx Q => d = v ∧ a M Qx Q } f.body { nx := fun _ M1 => Q .non M1, rt := Q, ex := fun _ => Qx } (some v :: List.replicate (f.N.length - 1) none) M
    act := fun _ _ _ _ => False }
end Dw
set_option Elab.async false
set_option linter.all false
set_option maxRecDepth 100000
set_option maxHeartbeats 4000000
/-! Dw2m: what is wanted may be weakened. -/
namespace Dw
open PySem

def AMono (a : DM → QX → QD → Prop) : Prop := ∀ (M : DM) (Qx Qx' : QX) (Q Q' : QD), (∀ e M, Qx e M → Qx' e M) → (∀ d M, Q d M → Q' d M) → a M Qx Q → a M Qx' Q'
structure CMono (C : Calls) : Prop where
  run : ∀ (i : Nat) (ds : List D) (M : DM) (Qx Qx' : QX) (Q Q' : QD), (∀ e M, Qx e M → Qx' e M) → (∀ d M, Q d M → Q' d M) → C.run i ds M Qx Q → C.run i ds M Qx' Q'
  lam : ∀ (i : Nat) (a : DM → QX → QD → Prop), AMono a → AMono (C.lam i a)
  act : ∀ d, AMono (C.act d)
section
variable {M : DM} {Q Q' : QD}
theorem res_mono {r : Option (Prop × D)} (hq : ∀ d M, Q d M → Q' d M) (h : res r M Q) : res r M Q' := by
  cases r with
  | none => exact h
  | some r => exact ⟨h.1, hq _ _ h.2⟩
theorem resM_mono {r : Option (Prop × D × DM)} (hq : ∀ d M, Q d M → Q' d M) (h : resM r Q) : resM r Q' := by
  cases r with
  | none => exact h
  | some r => exact ⟨h.1, hq _ _ h.2⟩
theorem resI_mono {r : Option (Prop × List D × (DM → Prop))} {R R' : List D → (DM → Prop) → DM → Prop} (hq : ∀ d G M, R d G M → R' d G M) (h : resI r R M) : resI r R' M := by
  cases r with
  | none => exact h
  | some r => exact ⟨h.1, hq _ _ _ h.2⟩
theorem ifD_mono {x : D} {P P' R R' : Prop} (h1 : P → P') (h2 : R → R') (h : ifD M x P R) : ifD M x P' R' := by
  unfold ifD at h ⊢
  split at h
  · exact h1 h
  · exact h2 h
  · exact h.elim
theorem intD_mono {d : D} {P P' : Int → Prop} (h : ∀ i, P i → P' i) (q : intD d P) : intD d P' := by
  cases d <;> first
    | exact q.elim
    | exact h _ q
theorem newL_mono {m : Bool} {ds : List D} (hq : ∀ d M, Q d M → Q' d M) (h : newL m ds M Q) : newL m ds M Q' := by
  unfold newL at h ⊢
  cases m with
  | true => exact fun a n => hq _ _ (h a n)
  | false => exact hq _ _ h
end
theorem sstP_mono {M : DM} {Q Q' : QD} {x : D} (hq : ∀ d M, Q d M → Q' d M) (h : sstP x M Q) : sstP x M Q' := by
  cases x <;> first
    | exact h.elim
    | exact ⟨h.1, fun es z => hq _ _ (h.2 es z)⟩
theorem revP_mono {M : DM} {Q Q' : QD} {m : Bool} {x : D} (hq : ∀ d M, Q d M → Q' d M) (h : revP m x M Q) : revP m x M Q' := by
  cases x <;> first
    | exact h.elim
    | exact newL_mono hq h
mutual
theorem tgT_mono : ∀ (t : T) {d : D} {δ : DS} {R R' : DS → Prop}, (∀ δ, R δ → R' δ) → tgT t d δ R → tgT t d δ R'
  | .var i, d, δ, R, R', h, q => h _ q
  | .tup ts, d, δ, R, R', h, q => by
    cases d with
    | tup ds => exact ⟨q.1, tgTs_mono ts h q.2⟩
    | _ => exact q
theorem tgTs_mono : ∀ (ts : List T) {ds : List D} {δ : DS} {R R' : DS → Prop}, (∀ δ, R δ → R' δ) → tgTs ts ds δ R → tgTs ts ds δ R'
  | [], ds, δ, R, R', h, q => by
    cases ds with
    | nil => exact h _ q
    | cons d ds => exact q
  | t :: ts, ds, δ, R, R', h, q => by
    cases ds with
    | nil => exact q
    | cons d ds => exact tgT_mono t (fun δ' => tgTs_mono ts h) q
end
theorem lcTurns_mono {tg : D → DS → (DS → Prop) → Prop} {test : DTT} {elt : DTE} {G : DM → Prop} {δ : DS} {Qx Qx' : QX} {Q Q' : List D → DM → Prop}
    (ht : ∀ d δ (R R' : DS → Prop), (∀ δ, R δ → R' δ) → tg d δ R → tg d δ R')
    (hc : ∀ δ M (P P' : Bool → DM → Prop), (∀ b M, P b M → P' b M) → test δ M Qx P → test δ M Qx' P')
    (he : ∀ δ M (P P' : QD), (∀ b M, P b M → P' b M) → elt δ M Qx P → elt δ M Qx' P')
    (hq : ∀ d M, Q d M → Q' d M) : ∀ ds acc M, lcTurns tg test elt G δ Qx Q ds acc M → lcTurns tg test elt G δ Qx' Q' ds acc M
  | [], acc, M, h => ⟨h.1, hq _ _ h.2⟩
  | d :: ds, acc, M, h => ⟨h.1, ht _ _ _ _ (fun δ' => hc _ _ _ _ fun b M' => match b with
      | true => he _ _ _ _ (fun y M'' => lcTurns_mono ht hc he hq ds (acc ++ [y]) M'')
      | false => lcTurns_mono ht hc he hq ds acc M') h.2⟩
/-- ends that ask no more -/
structure ELe (E E' : DEnds) : Prop where
  nx : ∀ δ M, E.nx δ M → E'.nx δ M
  rt : ∀ d M, E.rt d M → E'.rt d M
  bk : ∀ δ M, E.bk δ M → E'.bk δ M
  ct : ∀ δ M, E.ct δ M → E'.ct δ M
  ex : ∀ δ e M, E.ex δ e M → E'.ex δ e M
theorem forTurns_mono {tg : D → DS → (DS → Prop) → Prop} {body : DTS} {G : DM → Prop}
    (ht : ∀ d δ (R R' : DS → Prop), (∀ δ, R δ → R' δ) → tg d δ R → tg d δ R')
    (hb : ∀ (E E' : DEnds), ELe E E' → ∀ δ M, body E δ M → body E' δ M) {E E' : DEnds} (l : ELe E E') : ∀ ds δ M, forTurns tg body G E ds δ M → forTurns tg body G E' ds δ M
  | [], δ, M, h => ⟨h.1, l.nx _ _ h.2⟩
  | d :: ds, δ, M, h => by
    refine ⟨h.1, ht _ _ _ _ (fun δ' q => hb _ _ ?_ _ _ q) h.2⟩
    exact ⟨fun _ _ => forTurns_mono ht hb l _ _ _, l.rt, l.nx, fun _ _ => forTurns_mono ht hb l _ _ _, l.ex⟩
theorem whlW_mono {c : DTT} {body : DTS} {E E' : DEnds} (l : ELe E E')
    (hc : ∀ δ M (Qx Qx' : QX) (P P' : Bool → DM → Prop), (∀ e M, Qx e M → Qx' e M) → (∀ b M, P b M → P' b M) → c δ M Qx P → c δ M Qx' P')
    (hb : ∀ (E E' : DEnds), ELe E E' → ∀ δ M, body E δ M → body E' δ M) {δ : DS} {M : DM} (h : whlW c body E δ M) : whlW c body E' δ M := by
  obtain ⟨W, w, h⟩ := h
  refine ⟨W, w, fun m δ M hw => hc _ _ _ _ _ _ (l.ex δ) (fun b M1 q => ?_) (h m δ M hw)⟩
  cases b with
  | true =>
    refine hb _ _ ?_ _ _ q
    exact ⟨fun _ _ z => z, l.rt, l.nx, fun _ _ z => z, l.ex⟩
  | false => exact l.nx _ _ q
theorem clW_mono {E E' : DEnds} (l : ELe E E') {δ : DS} {e : Exc} {M : DM} : ∀ zs : List Cz, clW E δ e M zs → clW E' δ e M zs
  | [], h => l.ex _ _ _ h
  | z :: zs, h => by
    unfold clW at h ⊢
    cases hz : z.hit.contains e.cls with
    | false => rw [hz] at h; exact clW_mono l zs h
    | true =>
      rw [hz] at h
      cases ha : e.at_ with
      | none => rw [ha] at h; exact h.elim
      | some y =>
        rw [ha] at h
        cases hs : z.su with
        | ret t => simp only [hs, suW] at h ⊢; exact l.rt _ _ h
        | set j t => simp only [hs, suW] at h ⊢; exact l.nx _ _ h
section
variable {C : Calls} (hC : CMono C)
include hC
mutual
theorem wpE_mono : ∀ (e : E) {δ : DS} {M : DM} {Qx Qx' : QX} {Q Q' : QD}, (∀ e M, Qx e M → Qx' e M) → (∀ d M, Q d M → Q' d M) → wpE C e δ M Qx Q → wpE C e δ M Qx' Q'
  | .var i, δ, M, Qx, Qx', Q, Q', hx, hq, h => res_mono hq h
  | .lit d, δ, M, Qx, Qx', Q, Q', hx, hq, h => hq _ _ h
  | .glo x d, δ, M, Qx, Qx', Q, Q', hx, hq, h => hq _ _ h
  | .tup es, δ, M, Qx, Qx', Q, Q', hx, hq, h => wpA_mono es hx (fun _ _ => hq _ _) h
  | .lst m es, δ, M, Qx, Qx', Q, Q', hx, hq, h => wpA_mono es hx (fun _ _ => newL_mono hq) h
  | .bin o a b, δ, M, Qx, Qx', Q, Q', hx, hq, h => wpE_mono a hx (fun _ _ => wpE_mono b hx fun _ _ => res_mono hq) h
  | .neg a, δ, M, Qx, Qx', Q, Q', hx, hq, h => wpE_mono a hx (fun _ _ => res_mono hq) h
  | .not a, δ, M, Qx, Qx', Q, Q', hx, hq, h => wpE_mono a hx (fun _ _ => res_mono hq) h
  | .cmp o a b, δ, M, Qx, Qx', Q, Q', hx, hq, h => wpE_mono a hx (fun _ _ => wpE_mono b hx fun _ _ => res_mono hq) h
  | .cmp2 o o' a b c, δ, M, Qx, Qx', Q, Q', hx, hq, h => wpE_mono a hx (fun _ _ => wpE_mono b hx fun _ _ => res_mono fun _ _ => ifD_mono (wpE_mono c hx fun _ _ => res_mono hq) (hq _ _)) h
  | .and a b, δ, M, Qx, Qx', Q, Q', hx, hq, h => wpE_mono a hx (fun _ _ => ifD_mono (wpE_mono b hx hq) (hq _ _)) h
  | .or a b, δ, M, Qx, Qx', Q, Q', hx, hq, h => wpE_mono a hx (fun _ _ => ifD_mono (hq _ _) (wpE_mono b hx hq)) h
  | .ife c a b, δ, M, Qx, Qx', Q, Q', hx, hq, h => wpE_mono c hx (fun _ _ => ifD_mono (wpE_mono a hx hq) (wpE_mono b hx hq)) h
  | .call f as, δ, M, Qx, Qx', Q, Q', hx, hq, h => wpA_mono as hx (fun _ _ => hC.run _ _ _ _ _ _ _ hx hq) h
  | .lam f b, δ, M, Qx, Qx', Q, Q', hx, hq, h => hC.lam f (fun M1 Qx1 Q1 => wpE C b δ M1 Qx1 Q1) (fun _ _ _ _ _ h1 h2 => wpE_mono b h1 h2) M Qx Qx' Q Q' hx hq h
  | .act, δ, M, Qx, Qx', Q, Q', hx, hq, h => by
    unfold wpE at h ⊢
    cases e : lookD δ 0 with
    | none => simp only [e] at h
    | some d => simp only [e] at h ⊢; exact hC.act d _ _ _ _ _ hx hq h
  | .blt b as, δ, M, Qx, Qx', Q, Q', hx, hq, h => wpA_mono as hx (fun _ _ => res_mono hq) h
  | .isi a ts, δ, M, Qx, Qx', Q, Q', hx, hq, h => wpE_mono a hx (fun _ _ => res_mono hq) h
  | .mth m o as, δ, M, Qx, Qx', Q, Q', hx, hq, h => wpE_mono o hx (fun _ _ q => ⟨q.1, wpA_mono as hx (fun _ _ => resM_mono hq) q.2⟩) h
  | .idx a i, δ, M, Qx, Qx', Q, Q', hx, hq, h => wpE_mono a hx (fun _ _ => wpE_mono i hx fun _ _ => res_mono hq) h
  | .slc a lo hi, δ, M, Qx, Qx', Q, Q', hx, hq, h => wpE_mono a hx (fun _ _ => wpO_mono lo hx fun _ _ => wpO_mono hi hx fun _ _ => res_mono hq) h
  | .rev m a, δ, M, Qx, Qx', Q, Q', hx, hq, h => wpE_mono a hx (fun _ _ => revP_mono hq) h
  | .stp a lo hi st, δ, M, Qx, Qx', Q, Q', hx, hq, h => wpE_mono a hx (fun _ _ => res_mono hq) h
  | .sst a, δ, M, Qx, Qx', Q, Q', hx, hq, h => wpE_mono a hx (fun _ _ => sstP_mono hq) h
  | .trg tup a, δ, M, Qx, Qx', Q, Q', hx, hq, h => wpE_mono a hx (fun _ _ => res_mono hq) h
  | .dlt kvs, δ, M, Qx, Qx', Q, Q', hx, hq, h => fun p n => hq _ _ (h p n)
  | .spl s t ws, δ, M, Qx, Qx', Q, Q', hx, hq, h => hq _ _ h
  | .lc m e own t it cs, δ, M, Qx, Qx', Q, Q', hx, hq, h => wpI_mono it hx (fun _ _ _ => lcTurns_mono (tg := tgT t) (test := wpC C cs) (elt := wpE C e) (fun _ _ _ _ => tgT_mono t) (fun _ _ _ _ => wpC_mono cs fun _ _ z => z) (fun _ _ _ _ => wpE_mono e fun _ _ z => z) (fun _ _ => newL_mono hq) _ _ _) h
theorem wpO_mono : ∀ (o : Option E) {δ : DS} {M : DM} {Qx Qx' : QX} {Q Q' : Option Int → DM → Prop}, (∀ e M, Qx e M → Qx' e M) → (∀ d M, Q d M → Q' d M) → wpO C o δ M Qx Q → wpO C o δ M Qx' Q'
  | none, δ, M, Qx, Qx', Q, Q', hx, hq, h => hq _ _ h
  | some e, δ, M, Qx, Qx', Q, Q', hx, hq, h => wpE_mono e hx (fun d _ => intD_mono fun _ => hq _ _) h
theorem wpA_mono : ∀ (es : List E) {δ : DS} {M : DM} {Qx Qx' : QX} {Q Q' : List D → DM → Prop}, (∀ e M, Qx e M → Qx' e M) → (∀ d M, Q d M → Q' d M) → wpA C es δ M Qx Q → wpA C es δ M Qx' Q'
  | [], δ, M, Qx, Qx', Q, Q', hx, hq, h => hq _ _ h
  | e :: es, δ, M, Qx, Qx', Q, Q', hx, hq, h => wpE_mono e hx (fun _ _ => wpA_mono es hx fun _ _ => hq _ _) h
theorem wpC_mono : ∀ (es : List E) {δ : DS} {M : DM} {Qx Qx' : QX} {Q Q' : Bool → DM → Prop}, (∀ e M, Qx e M → Qx' e M) → (∀ d M, Q d M → Q' d M) → wpC C es δ M Qx Q → wpC C es δ M Qx' Q'
  | [], δ, M, Qx, Qx', Q, Q', hx, hq, h => hq _ _ h
  | e :: es, δ, M, Qx, Qx', Q, Q', hx, hq, h => wpE_mono e hx (fun _ _ => ifD_mono (wpC_mono es hx hq) (hq _ _)) h
theorem wpI_mono : ∀ (it : I) {δ : DS} {M : DM} {Qx Qx' : QX} {R R' : List D → (DM → Prop) → DM → Prop}, (∀ e M, Qx e M → Qx' e M) → (∀ d G M, R d G M → R' d G M) → wpI C it δ M Qx R → wpI C it δ M Qx' R'
  | .seq e, δ, M, Qx, Qx', R, R', hx, hq, h => wpE_mono e hx (fun _ _ => resI_mono hq) h
  | .rng1 e, δ, M, Qx, Qx', R, R', hx, hq, h => wpE_mono e hx (fun _ _ => resI_mono hq) h
  | .rng2 a b, δ, M, Qx, Qx', R, R', hx, hq, h => wpE_mono a hx (fun _ _ => wpE_mono b hx fun _ _ => resI_mono hq) h
  | .enum e, δ, M, Qx, Qx', R, R', hx, hq, h => wpE_mono e hx (fun _ _ => resI_mono hq) h
  | .zip a b, δ, M, Qx, Qx', R, R', hx, hq, h => wpE_mono a hx (fun _ _ => wpE_mono b hx fun _ _ => resI_mono hq) h
end
theorem wpT_mono (c : E) {δ : DS} {M : DM} {Qx Qx' : QX} {Q Q' : Bool → DM → Prop} (hx : ∀ e M, Qx e M → Qx' e M) (hq : ∀ d M, Q d M → Q' d M) (h : wpT C c δ M Qx Q) : wpT C c δ M Qx' Q' :=
  wpE_mono hC c hx (fun _ _ => ifD_mono (hq _ _) (hq _ _)) h
mutual
theorem wpS_mono : ∀ (s : S) {E E' : DEnds}, ELe E E' → ∀ {δ : DS} {M : DM}, wpS C s E δ M → wpS C s E' δ M
  | .set i e, E, E', l, δ, M, h => wpE_mono hC e (l.ex δ) (fun _ _ => l.nx _ _) h
  | .setT t e, E, E', l, δ, M, h => wpE_mono hC e (l.ex δ) (fun _ _ => tgT_mono t fun _ => l.nx _ _) h
  | .par is es, E, E', l, δ, M, h => wpA_mono hC es (l.ex δ) (fun _ _ => l.nx _ _) h
  | .setI o i e, E, E', l, δ, M, h => wpE_mono hC e (l.ex δ) (fun _ _ => wpE_mono hC o (l.ex δ) fun _ _ => wpE_mono hC i (l.ex δ) fun _ _ => resM_mono fun _ _ => l.nx _ _) h
  | .aug i o e, E, E', l, δ, M, h => wpE_mono hC (.var i) (l.ex δ) (fun _ _ => wpE_mono hC e (l.ex δ) fun _ _ => res_mono fun _ _ => l.nx _ _) h
  | .ex e, E, E', l, δ, M, h => wpE_mono hC e (l.ex δ) (fun _ _ => l.nx _ _) h
  | .ret e, E, E', l, δ, M, h => wpE_mono hC e (l.ex δ) l.rt h
  | .retN, E, E', l, δ, M, h => l.rt _ _ h
  | .iff c a b, E, E', l, δ, M, h => by
    unfold wpS at h ⊢
    refine wpT_mono hC c (l.ex δ) (fun k M1 q => ?_) h
    cases k with
    | true => exact wpSs_mono a l q
    | false => exact wpSs_mono b l q
  | .whl c b, E, E', l, δ, M, h => by
    unfold wpS at h ⊢
    exact whlW_mono (c := wpT C c) (body := wpSs C b) l (fun _ _ _ _ _ _ => wpT_mono hC c) (fun _ _ l _ _ => wpSs_mono b l) h
  | .for_ t it b, E, E', l, δ, M, h => wpI_mono hC it (l.ex δ) (fun _ _ _ => forTurns_mono (tg := tgT t) (body := wpSs C b) (fun _ _ _ _ => tgT_mono t) (fun _ _ l _ _ => wpSs_mono b l) l _ _ _) h
  | .raise x e, E, E', l, δ, M, h => wpE_mono hC e (l.ex δ) (fun _ _ => l.ex _ _ _) h
  | .try_ b all hs, E, E', l, δ, M, h => by
    unfold wpS at h ⊢
    refine wpSs_mono b ?_ h
    exact ⟨l.nx, l.rt, l.bk, l.ct, fun _ _ _ z => ⟨z.1, clW_mono l hs z.2⟩⟩
  | .pass, E, E', l, δ, M, h => l.nx _ _ h
  | .brk, E, E', l, δ, M, h => l.bk _ _ h
  | .cont, E, E', l, δ, M, h => l.ct _ _ h
theorem wpSs_mono : ∀ (ss : List S) {E E' : DEnds}, ELe E E' → ∀ {δ : DS} {M : DM}, wpSs C ss E δ M → wpSs C ss E' δ M
  | [], E, E', l, δ, M, h => l.nx _ _ h
  | s :: ss, E, E', l, δ, M, h => by
    unfold wpSs at h ⊢
    refine wpS_mono s ?_ h
    exact ⟨fun _ _ => wpSs_mono ss l, l.rt, l.bk, l.ct, l.ex⟩
end
end
theorem backQ_mono {gc : Bool} {M : DM} {Q Q' : QD} (h : ∀ d M, Q d M → Q' d M) (d : D) (M1 : DM) (q : backQ gc M Q d M1) : backQ gc M Q' d M1 := by
  cases gc with
  | true => exact ⟨q.1, q.2.1, h _ _ q.2.2⟩
  | false => exact h _ _ q
theorem backX_mono {gc : Bool} {M : DM} {Q Q' : QX} (h : ∀ d M, Q d M → Q' d M) (d : Exc) (M1 : DM) (q : backX gc M Q d M1) : backX gc M Q' d M1 := by
  cases gc with
  | true => exact ⟨q.1, q.2.1, h _ _ q.2.2⟩
  | false => exact h _ _ q
theorem callW_mono (P : Pg) : ∀ k, CMono (callW P k)
  | 0 => ⟨fun _ _ _ _ _ _ _ _ _ h => h.elim, fun _ _ _ _ _ _ _ _ _ _ h => h.elim, fun _ _ _ _ _ _ _ _ h => h.elim⟩
  | k + 1 => by
    refine ⟨fun i ds M Qx Qx' Q Q' hx hq h => ?_, fun i a ha M Qx Qx' Q Q' hx hq h => ?_, fun _ _ _ _ _ _ _ _ h => h.elim⟩
    · unfold callW at h ⊢
      cases e : P[i]? with
      | none => simp only [e] at h
      | some f =>
        simp only [e] at h ⊢
        refine ⟨h.1, h.2.1, wpSs_mono (callW_mono P k) f.body ?_ h.2.2⟩
        exact ⟨fun _ => backQ_mono hq _, backQ_mono hq, fun _ _ z => z, fun _ _ z => z, fun _ => backX_mono hx⟩
    · unfold callW at h ⊢
      cases e : P[i]? with
      | none => simp only [e] at h
      | some f =>
        simp only [e] at h ⊢
        refine ⟨h.1, fun v => ?_⟩
        have mo : CMono { callW P k with act := fun d M Qx Q => d = v ∧ a M Qx Q } := ⟨(callW_mono P k).run, (callW_mono P k).lam, fun d M Qx Qx' Q Q' h1 h2 z => ⟨z.1, ha M Qx Qx' Q Q' h1 h2 z.2⟩⟩
        refine wpSs_mono mo f.body ?_ (h.2 v)
        exact ⟨fun _ => hq _, hq, fun _ _ z => z, fun _ _ z => z, fun _ => hx⟩
end Dw
set_option Elab.async false
set_option linter.all false
set_option maxRecDepth 100000
set_option maxHeartbeats 4000000
/-! Dw3: the operations on data are what the machine does: one OpR, CallR, MtR .. each. -/
namespace Dw
open PySem PySem.Spec PyProof.Rows L2

abbrev gm (X : Cx) : Gm := ⟨X.K, X.mg⟩
/-- an operation of two values, told over data -/
abbrev DOp := D → D → DM → QD → Prop
def upO (G : Gm) (t : DOp) : R2 := fun x y H Qv => ∃ M d e Q, RM G H M ∧ Rp G H M x d ∧ Rp G H M y e ∧ t d e M Q ∧ ∀ v H', LQ G H M Q v H' → Qv v H'
theorem opr_wk {X : Cx} {f : Value → Value → Sem Value} {r r' : R2} (h : OpR X f r) (w : ∀ x y H Q, r' x y H Q → r x y H Q) : OpR X f r' :=
  fun pins s σ H x y v u Q I rx ry q => h pins s σ H x y v u Q I rx ry (w x y H Q q)

section
variable {G : Gm} {H : Hp} {M : DM} {Q : QD} {Qv : VK}
theorem lq {d : D} {v : V} (r : RM G H M) (a : Rp G H M v d) (q : Q d M) (w : ∀ v H', LQ G H M Q v H' → Qv v H') : Qv v H := w v H ⟨d, M, .refl, r, a, q⟩
theorem lqTup {xs : List V} {ds : List D} {p : Addr} (r : RM G H M) (a : Rps G H M xs ds) (z : ds.length ≤ sizeLine) (n : H p = none) (q : Q (.tup ds) M) (w : ∀ v H', LQ G H M Q v H' → Qv v H') :
    Qv (.ref p) (upd H p (.tup xs)) := w _ _ ⟨.tup ds, M, .new n, r.new n, .tup (.of upd_same) z (a.mono (Ext.new n).toExt0), q⟩
theorem lqLst {xs : List V} {ds : List D} {p : Addr} (r : RM G H M) (a : Rps G H M xs ds) (z : ds.length ≤ sizeLine) (n : H p = none) (q : Q (.lst ds) M) (w : ∀ v H', LQ G H M Q v H' → Qv v H') :
    FQ Qv (.ref p) (upd H p (.lst xs)) := .inr ⟨p, _, upd_same, trivial, fun od => by
  rw [upd_upd]
  exact w _ _ ⟨.lst ds, M, .new n, r.new n, .lst upd_same z (a.mono (Ext.new n).toExt0), q⟩⟩
theorem lqNew {xs : List V} {ds : List D} {p : Addr} (r : RM G H M) (a : Rps G H M xs ds) (n : H p = none) (q : Q (.ref p) (updM M p (.lst ds))) (w : ∀ v H', LQ G H M Q v H' → Qv v H') :
    Qv (.ref p) (upd H p (.lst xs)) := w _ _ ⟨.ref p, _, .newM n, r.newL n a, .ref updM_same, q⟩
/-- a new list, by value or written -/
theorem lqL {m : Bool} {xs : List V} {ds : List D} {p : Addr} (r : RM G H M) (a : Rps G H M xs ds) (z : ds.length ≤ sizeLine) (n : H p = none) (q : newL m ds M Q) (w : ∀ v H', LQ G H M Q v H' → Qv v H') :
    FQ Qv (.ref p) (upd H p (.lst xs)) := by
  unfold newL at q
  cases m with
  | true => exact .inl (lqNew r a n (q p (r.free n)) w)
  | false => exact lqLst r a z n q w
end

/-! ### + on lists, whatever they are known by -/
section
variable {X : Cx}
theorem rd_at {pins : List (Addr × Obj)} {σ : L2.St} {H : Hp} {s : Shared} {a : Addr} {xs : List V} (I : Inv X pins σ H s) (h : Rd H a (.lst xs)) :
    ∃ (its : List Value) (n : Nat), Vals xs its ∧ its.length = xs.length ∧ xs.length ≤ sizeLine ∧ s.heap.get? a = some { cls := .type "list", data := .seq its.toArray n } := by
  have ok := h.ok I.hok
  rcases ok with ⟨z, its, n, r, e⟩
  exact ⟨its, n, r, r.length.symm, z, e⟩
theorem op_catR : OpR X (binaryOp .Add) (fun x y H Q => ∃ a b xs zs, x = .ref a ∧ y = .ref b ∧ Rd H a (.lst xs) ∧ Rd H b (.lst zs) ∧ xs.length + zs.length ≤ sizeLine ∧ ∀ p, H p = none → Q (.ref p) (upd H p (.lst (xs ++ zs)))) := by
  rintro pins s σ H x y v u Q I rx ry ⟨a, b, xs, zs, rfl, rfl, ha, hb, hz, q⟩
  cases rx; cases ry
  obtain ⟨i1, n1, r1, l1, _, e1⟩ := rd_at I ha
  obtain ⟨i2, n2, r2, l2, _, e2⟩ := rd_at I hb
  refine PySem.P.add_list e1 e2 ?_ (by simp only [List.size_toArray]; omega)
  have join : i1.toArray ++ i2.toArray = (i1 ++ i2).toArray := List.append_toArray _ _
  rw [join]
  have both := r1.append r2
  have room : (xs ++ zs).length ≤ sizeLine := by simpa using hz
  exact ⟨.ref s.heap.objs.size, upd H s.heap.objs.size (.lst (xs ++ zs)), I.lnew (t' := s.toks) both room, rfl, q s.heap.objs.size I.fresh⟩
/-- a list (by value) times an int -/
theorem op_repR : OpR X (binaryOp .Mult) (fun x y H Q => ∃ a k xs, x = .ref a ∧ y = .int k ∧ Rd H a (.lst xs) ∧ -(2 ^ 63) ≤ k ∧ k < 2 ^ 63 ∧ xs.length * k.toNat ≤ sizeLine ∧ ∀ p, H p = none → Q (.ref p) (upd H p (.lst (List.replicate k.toNat xs).flatten))) := by
  rintro pins s σ H x y v u Q I rx ry ⟨l, k, xs, rfl, rfl, hH, h1, h2, hz, q⟩
  cases rx
  obtain ⟨t, rfl⟩ := ry
  obtain ⟨its, n, r, hl, _, e⟩ := rd_at I hH
  have hl : xs.length = its.length := hl.symm
  have hlen : its.toArray.size * k.toNat ≤ sizeLine := by rw [List.size_toArray, ← hl]; exact hz
  have hcap : ¬ its.toArray.size * k.toNat > (2 ^ 63 - 1) / 8 := by
    have : (sizeLine : Nat) ≤ (2 ^ 63 - 1) / 8 := by decide
    omega
  have hfit : ¬ (!Builtin.List.listFitsIndex k) = true := by
    rw [fitsIndex_both h1 h2]
    exact Bool.false_ne_true
  have hlong : ¬ Builtin.List.listTooLong (its.toArray.size * k.toNat) = true := by
    rw [notLongL hlen]
    exact Bool.false_ne_true
  have hnew : List.foldl (fun x1 x2 => x1 ++ x2) #[] (List.replicate (if its.toArray.isEmpty = true then 0 else k.toNat) its.toArray) = (List.replicate k.toNat its).flatten.toArray := by
    have f0 : ∀ m : Nat, List.foldl (fun x1 x2 => x1 ++ x2) #[] (List.replicate m its.toArray) = (List.replicate m its).flatten.toArray := fun m => by
      have := foldl_rep its m []
      rw [List.nil_append] at this
      exact this
    rw [f0]
    cases its with
    | nil => simp
    | cons a r' => rw [if_neg (by simp)]
  refine wpAny_binaryOp_repeat_ref (T := "list") (U := "int") (by decide) ⟨_, e, rfl⟩ (fun s' => typeIs_int s' k t) noFill_list_mul F.fills_int_mul F.slot_int_rmul repeat_list F.slot_int_index.lookup
    (call_meets F.slot_int_rmul (typeIs_int s k t) F.entry_int_rmul (F.args_int_rmul_2 _ _) (int___rmul___int_list k t l its.toArray n)
      ⟨e, rfl, ⟨_, e, rfl⟩, call_meets F.slot_list_mul ⟨_, e, rfl⟩ F.entry_list_mul (F.args_list_mul_2 _ _) (AutoListH.list___mul___list_int_3 l its.toArray n k t hfit hcap hlong) ⟨e, ?_⟩⟩)
  rw [hnew]
  exact ⟨.ref _, _, I.lnew (t' := s.toks) (r.rep k.toNat) (by rw [PyProof.Rows.lm_len_rep_flat, Nat.mul_comm]; exact hz), rfl, q _ I.fresh⟩
theorem Rps.rep {G : Gm} {H : Hp} {M : DM} {xs : List V} {ds : List D} (h : Rps G H M xs ds) : ∀ n : Nat, Rps G H M (List.replicate n xs).flatten (List.replicate n ds).flatten
  | 0 => .nil
  | n + 1 => by
    rw [List.replicate_succ, List.replicate_succ, List.flatten_cons, List.flatten_cons]
    exact h.append (Rps.rep h n)
end

theorem okS.app {x y : List Nat} (a : okS x) (b : okS y) (h : x.length + y.length ≤ sizeLine) : okS (x ++ y) :=
  ⟨by rw [List.length_append]; exact h, fun c hc => (List.mem_append.mp hc).elim (a.c c) (b.c c)⟩
theorem okS.sub {x y : List Nat} (a : okS x) (h : ∀ c ∈ y, c ∈ x) (z : y.length ≤ x.length) : okS y := ⟨Nat.le_trans z a.z, fun c hc => a.c c (h c hc)⟩
/-! ### arithmetic -/
def bopOf : Bop → Operator
  | .add => .Add
  | .sub => .Sub
  | .mul => .Mult
  | .mod => .Mod
  | .fdiv => .FloorDiv
  | .pow => .Pow
theorem mkS_app (x y : List Nat) : mkS x ++ mkS y = mkS (x ++ y) := by
  show Str.mk (x.toArray ++ y.toArray) = Str.mk (x ++ y).toArray
  rw [List.append_toArray]
section
variable {X : Cx}
theorem op_bin (o : Bop) : OpR X (binaryOp (bopOf o)) (upO (gm X) fun x y M Q => res (binR o x y) M Q) := by
  rintro pins s σ H x y v u Qv I rx ry ⟨M, d, e, Q, rm, a, b, q, w⟩
  cases o with
  | add =>
    cases d <;> cases e <;> first | exact q.elim | skip
    · obtain rfl := a.inv_int; obtain rfl := b.inv_int
      exact op_add pins s σ H _ _ v u Qv I rx ry ⟨_, _, rfl, rfl, lq rm (.int _) q.2 w⟩
    · obtain ⟨rfl, z1⟩ := a.inv_str; obtain ⟨rfl, z2⟩ := b.inv_str
      refine op_add_str pins s σ H _ _ v u Qv I rx ry ⟨_, _, rfl, rfl, ?_, ?_⟩
      · rw [mkS_len, mkS_len]; exact q.1
      · rw [mkS_app]
        exact lq rm (.str _ (z1.app z2 q.1)) q.2 w
    · obtain ⟨a1, xs, rfl, s1, z1, r1⟩ := a.inv_tup; obtain ⟨b1, ys, rfl, s2, z2, r2⟩ := b.inv_tup
      have l1 := r1.length
      have l2 := r2.length
      refine op_catA pins s σ H _ _ v u Qv I rx ry ⟨a1, b1, xs, ys, rfl, rfl, s1, s2, by rw [l1, l2]; exact q.1, fun e => ?_, fun _ e => ?_, fun _ _ p n => ?_⟩
      · subst e; cases r1
        exact lq rm (.tup s2 z2 r2) q.2 w
      · subst e; cases r2
        have q2 := q.2
        rw [List.append_nil] at q2
        exact lq rm (.tup s1 z1 r1) q2 w
      · exact lqTup rm (r1.append r2) (by rw [List.length_append]; exact q.1) n q.2 w
    · obtain ⟨a1, xs, rfl, s1, z1, r1⟩ := a.inv_lst; obtain ⟨b1, ys, rfl, s2, z2, r2⟩ := b.inv_lst
      have l1 := r1.length
      have l2 := r2.length
      refine opr_fz op_catR pins s σ H _ _ v u Qv I rx ry ⟨a1, b1, xs, ys, rfl, rfl, s1, s2, by rw [l1, l2]; exact q.1, fun p n => ?_⟩
      exact lqLst rm (r1.append r2) (by rw [List.length_append]; exact q.1) n q.2 w
  | sub =>
    cases d <;> cases e <;> first | exact q.elim | skip
    obtain rfl := a.inv_int; obtain rfl := b.inv_int
    exact op_sub pins s σ H _ _ v u Qv I rx ry ⟨_, _, rfl, rfl, lq rm (.int _) q.2 w⟩
  | mul =>
    cases d <;> cases e <;> first | exact q.elim | skip
    · obtain rfl := a.inv_int; obtain rfl := b.inv_int
      exact op_mul pins s σ H _ _ v u Qv I rx ry ⟨_, _, rfl, rfl, q.1, lq rm (.int _) q.2 w⟩
    · obtain ⟨a1, xs, rfl, s1, z1, r1⟩ := a.inv_lst; obtain rfl := b.inv_int
      have l1 := r1.length
      obtain ⟨k1, k2, k3⟩ := q.1
      refine opr_fz op_repR pins s σ H _ _ v u Qv I rx ry ⟨a1, _, xs, rfl, rfl, s1, k1, k2, by rw [l1]; exact k3, fun p n => ?_⟩
      exact lqLst rm (r1.rep _) (by rw [PyProof.Rows.lm_len_rep_flat, Nat.mul_comm]; exact k3) n q.2 w
  | mod =>
    cases d <;> cases e <;> first | exact q.elim | skip
    obtain rfl := a.inv_int; obtain rfl := b.inv_int
    exact op_mod pins s σ H _ _ v u Qv I rx ry ⟨_, _, rfl, rfl, q.1, lq rm (.int _) q.2 w⟩
  | fdiv =>
    cases d <;> cases e <;> first | exact q.elim | skip
    obtain rfl := a.inv_int; obtain rfl := b.inv_int
    refine op_fdivW pins s σ H _ _ v u Qv I rx ry ⟨_, _, rfl, rfl, wide_div (b := 63) q.1.1 ?_ (by decide) (by decide), lq rm (.int _) q.2 w⟩
    have h1 := q.1.1
    have h2 := q.1.2
    omega
  | pow =>
    cases d <;> cases e <;> first | exact q.elim | skip
    obtain rfl := a.inv_int; obtain rfl := b.inv_int
    exact op_pow pins s σ H _ _ v u Qv I rx ry ⟨_, _, rfl, rfl, ⟨q.1.1, q.1.2.1, q.1.2.2⟩, lq rm (.int _) q.2 w⟩
end

/-! ### comparisons -/
mutual
def toPy : D → PyData
  | .non => .none
  | .bl b => .bool b
  | .int i => .int i
  | .str x => .str (mkS x)
  | .tup xs => .tuple (toPys xs)
  | .lst xs => .list (toPys xs)
  | .ref _ => .none
  | .glo _ => .none
  | .scr _ => .none
  | .fnv .. => .none
def toPys : List D → List PyData
  | [] => []
  | x :: xs => toPy x :: toPys xs
end
theorem mkS_eq (x y : List Nat) : (mkS x == mkS y) = (x == y) := by
  rw [Bool.eq_iff_iff, beq_iff_eq, beq_iff_eq]
  constructor
  · intro h
    have h1 := congrArg (fun s : Str => s.cps.toList) h
    exact h1
  · intro h
    rw [h]
mutual
theorem eqv_py : ∀ x y : D, plainD x = true → plainD y = true → PyData.eqv (toPy x) (toPy y) = eqD x y
  | .ref _, _, h, _ => by cases h
  | .glo _, _, h, _ => by cases h
  | x, .ref _, _, h => by cases h
  | x, .glo _, _, h => by cases h
  | .non, y, _, hy => by cases y <;> first | rfl | cases hy
  | .bl _, y, _, hy => by cases y <;> first | rfl | cases hy
  | .int _, y, _, hy => by cases y <;> first | rfl | cases hy
  | .str x, y, _, hy => by
    cases y <;> first
      | rfl
      | cases hy
      | skip
    simp only [toPy, PyData.eqv, eqD]
    exact mkS_eq _ _
  | .tup xs, y, hx, hy => by
    cases y <;> first
      | rfl
      | cases hy
      | skip
    simp only [toPy, PyData.eqv, eqD]
    exact eqv_pys _ _ hx hy
  | .lst xs, y, hx, hy => by
    cases y <;> first
      | rfl
      | cases hy
      | skip
    simp only [toPy, PyData.eqv, eqD]
    exact eqv_pys _ _ hx hy
theorem eqv_pys : ∀ xs ys : List D, plainDs xs = true → plainDs ys = true → PyData.eqvAll (toPys xs) (toPys ys) = eqDs xs ys
  | [], [], _, _ => by simp only [toPys, PyData.eqvAll, eqDs]
  | [], _ :: _, _, _ => by simp only [toPys, PyData.eqvAll, eqDs]
  | _ :: _, [], _, _ => by simp only [toPys, PyData.eqvAll, eqDs]
  | x :: xs, y :: ys, hx, hy => by
    have h1 := Bool.and_eq_true_iff.mp (show (plainD x && plainDs xs) = true from hx)
    have h2 := Bool.and_eq_true_iff.mp (show (plainD y && plainDs ys) = true from hy)
    simp only [toPys, PyData.eqvAll, eqDs]
    rw [eqv_py x y h1.1 h2.1, eqv_pys xs ys h1.2 h2.2]
end
theorem eqDs_len (a b : List D) : True := trivial
mutual
theorem deep_py : ∀ x : D, plainD x = true → (toPy x).depth = deepD x
  | .ref _, h => by cases h
  | .glo _, h => by cases h
  | .non, _ => by simp only [toPy, PyData.depth, deepD]
  | .bl _, _ => by simp only [toPy, PyData.depth, deepD]
  | .int _, _ => by simp only [toPy, PyData.depth, deepD]
  | .str _, _ => by simp only [toPy, PyData.depth, deepD]
  | .tup xs, h => by simp only [toPy, PyData.depth, deepD]; rw [deep_pys xs h]
  | .lst xs, h => by simp only [toPy, PyData.depth, deepD]; rw [deep_pys xs h]
theorem deep_pys : ∀ xs : List D, plainDs xs = true → PyData.depthAll (toPys xs) = deepDs xs
  | [], _ => by simp only [toPys, PyData.depthAll, deepDs]
  | x :: xs, h => by
    have h1 := Bool.and_eq_true_iff.mp (show (plainD x && plainDs xs) = true from h)
    simp only [toPys, PyData.depthAll, deepDs]
    rw [deep_py x h1.1, deep_pys xs h1.2]
end
section
variable {G : Gm} {H : Hp} {M : DM}
theorem strOk_of {l : List Nat} (h : okS l) : PyData.strOk (mkS l) = true := by
  show l.toArray.all (· < 0x110000) = true
  rw [Array.all_eq_true']
  intro c hc
  exact decide_eq_true (h.c c (by simpa using hc))
mutual
theorem Rp.py : ∀ {v : V} {d : D}, Rp G H M v d → plainD d = true → Dp G.K H v (toPy d) ∧ (toPy d).canLay0 = true
  | _, _, .non, _ => ⟨.non, by simp only [toPy, PyData.canLay0]⟩
  | _, _, .bl b, _ => ⟨.bl b, by simp only [toPy, PyData.canLay0]⟩
  | _, _, .int i, _ => ⟨.int i, by simp only [toPy, PyData.canLay0]⟩
  | _, _, .str l h, _ => ⟨.str _, by simp only [toPy, PyData.canLay0]; exact strOk_of h⟩
  | _, _, .tup s z r, h => ⟨.tup s (Rps.py r h).1, by simp only [toPy, PyData.canLay0]; exact (Rps.py r h).2⟩
  | _, _, .lst s z r, h => ⟨.lst (.inl (.inr ⟨_, s⟩)) (Rps.py r h).1, by simp only [toPy, PyData.canLay0]; exact (Rps.py r h).2⟩
  | _, _, .ref _, h => by cases h
  | _, _, .glo _, h => by cases h
  | _, _, .scr _ _ _, h => by cases h
theorem Rps.py : ∀ {vs : List V} {ds : List D}, Rps G H M vs ds → plainDs ds = true → DpAll G.K H vs (toPys ds) ∧ PyData.canLayAll0 (toPys ds) = true
  | _, _, .nil, _ => ⟨.nil, by simp only [toPys, PyData.canLayAll0]⟩
  | _, _, .cons a r, h => by
    have h1 := Bool.and_eq_true_iff.mp (show (plainD _ && plainDs _) = true from h)
    refine ⟨.cons (Rp.py a h1.1).1 (Rps.py r h1.2).1, ?_⟩
    simp only [toPys, PyData.canLayAll0]
    rw [(Rp.py a h1.1).2, (Rps.py r h1.2).2]
    rfl
end
/-- a written list is read as a plain one is -/
theorem Rp.flat (rm : RM G H M) {v : V} {d : D} (r : Rp G H M v d) (h : plainD (flatR M d) = true) : Dp G.K H v (toPy (flatR M d)) ∧ (toPy (flatR M d)).canLay0 = true := by
  cases d with
  | ref a =>
    obtain ⟨rfl, mo, hm⟩ := r.inv_ref
    cases mo with
    | lst ds =>
      have e : flatR M (.ref a) = .lst ds := by simp only [flatR, hm]
      rw [e] at h ⊢
      obtain ⟨xs, hx, rs⟩ := rm.getL hm
      exact ⟨.lst (.of hx) (rs.py h).1, by simp only [toPy, PyData.canLay0]; exact (rs.py h).2⟩
    | dct kvs =>
      have e : flatR M (.ref a) = .ref a := by simp only [flatR, hm]
      rw [e] at h
      cases h
  | _ => exact r.py h
end
def copOf : Cop → CmpOp
  | .eq => .Eq
  | .ne => .NotEq
  | .lt => .Lt
  | .le => .LtE
  | .gt => .Gt
  | .ge => .GtE
  | .isin => .In
  | .notin => .NotIn
  | .is => .Is
  | .isnot => .IsNot
section
variable {X : Cx}
theorem op_eqAny (hu : X.A.units + 190 < cLine) : OpR X (compareOp .Eq) (fun x y H Q => ∃ d e, Dp X.K H x d ∧ Dp X.K H y e ∧ d.canLay0 = true ∧ e.canLay0 = true ∧ min d.depth e.depth ≤ 180 ∧ Q (.bl (PyData.eqv d e)) H) := by
  rintro pins s σ H x y v u Q I rx ry ⟨d, e, hd, he, c1, c2, z, q⟩
  obtain ⟨as, r1⟩ := Dp.reads I d x v hd rx
  obtain ⟨bs, r2⟩ := Dp.reads I e y u he ry
  exact SeqAt.compareEq_reads r1 r2 c1 c2 (by omega) ⟨.bl _, H, I, rfl, q⟩
theorem op_neAny (hu : X.A.units + 190 < cLine) : OpR X (compareOp .NotEq) (fun x y H Q => ∃ d e, Dp X.K H x d ∧ Dp X.K H y e ∧ d.canLay0 = true ∧ e.canLay0 = true ∧ min d.depth e.depth ≤ 180 ∧ Q (.bl (!PyData.eqv d e)) H) := by
  rintro pins s σ H x y v u Q I rx ry ⟨d, e, hd, he, c1, c2, z, q⟩
  obtain ⟨as, r1⟩ := Dp.reads I d x v hd rx
  obtain ⟨bs, r2⟩ := Dp.reads I e y u he ry
  exact SeqAt.compareNe_reads r1 r2 c1 c2 (by omega) ⟨.bl _, H, I, rfl, q⟩
theorem op_inAny (hu : X.A.units + 190 < cLine) : OpR X (compareOp .In) (fun x y H Q => ∃ d ds, Dp X.K H x d ∧ (Dp X.K H y (.list ds) ∨ Dp X.K H y (.tuple ds)) ∧ d.canLay0 = true ∧ PyData.canLayAll0 ds = true ∧ min (PyData.depthAll ds) d.depth ≤ 180 ∧
    Q (.bl (ds.any fun z => PyData.eqv z d)) H) := by
  rintro pins s σ H x y v u Q I rx ry ⟨d, ds, hd, he, c1, c2, z, q⟩
  obtain ⟨as, r1⟩ := Dp.reads I d x v hd rx
  rcases he with he | he
  · obtain ⟨bs, r2⟩ := Dp.reads I _ y u he ry
    exact SeqAt.in_list_reads r2 r1 c2 c1 (by omega) ⟨.bl _, H, I, rfl, q⟩
  · obtain ⟨bs, r2⟩ := Dp.reads I _ y u he ry
    exact SeqAt.in_tuple_reads r2 r1 c2 c1 (by omega) ⟨.bl _, H, I, rfl, q⟩
theorem op_notInAny (hu : X.A.units + 190 < cLine) : OpR X (compareOp .NotIn) (fun x y H Q => ∃ d ds, Dp X.K H x d ∧ (Dp X.K H y (.list ds) ∨ Dp X.K H y (.tuple ds)) ∧ d.canLay0 = true ∧ PyData.canLayAll0 ds = true ∧ min (PyData.depthAll ds) d.depth ≤ 180 ∧
    Q (.bl (!ds.any fun z => PyData.eqv z d)) H) := by
  rintro pins s σ H x y v u Q I rx ry ⟨d, ds, hd, he, c1, c2, z, q⟩
  obtain ⟨as, r1⟩ := Dp.reads I d x v hd rx
  rcases he with he | he
  · obtain ⟨bs, r2⟩ := Dp.reads I _ y u he ry
    exact SeqAt.notIn_list_reads r2 r1 c2 c1 (by omega) ⟨.bl _, H, I, rfl, q⟩
  · obtain ⟨bs, r2⟩ := Dp.reads I _ y u he ry
    exact SeqAt.notIn_tuple_reads r2 r1 c2 c1 (by omega) ⟨.bl _, H, I, rfl, q⟩
end

theorem lexL_lt : ∀ x y : List Nat, decide (x < y) = lexL x y
  | [], [] => by simp [lexL]
  | [], y :: ys => by simp [lexL]
  | x :: xs, [] => by simp [lexL]
  | x :: xs, y :: ys => by
    have ih := lexL_lt xs ys
    unfold lexL
    by_cases h : x = y
    · subst h
      rw [if_pos rfl, ← ih]
      exact decide_eq_decide.mpr (by simp [List.cons_lt_cons_iff])
    · rw [if_neg h]
      exact decide_eq_decide.mpr (by simp [List.cons_lt_cons_iff, h])
mutual
theorem alike_py : ∀ x y : D, alikeD x y = true → PySem.W.alike (toPy x) (toPy y) = true
  | .non, y, h => by cases y <;> first | rfl | cases h
  | .bl _, y, h => by cases y <;> first | rfl | cases h
  | .int _, y, h => by cases y <;> first | rfl | cases h
  | .str _, y, h => by cases y <;> first | rfl | cases h
  | .tup xs, y, h => by
    cases y <;> first | cases h | skip
    simp only [toPy, PySem.W.alike]
    exact alike_pys _ _ h
  | .lst xs, y, h => by
    cases y <;> first | cases h | skip
    simp only [toPy, PySem.W.alike]
    exact alike_pys _ _ h
  | .ref _, y, h => by cases y <;> cases h
  | .glo _, y, h => by cases y <;> cases h
theorem alike_pys : ∀ xs ys : List D, alikeDs xs ys = true → PySem.W.alikeAll (toPys xs) (toPys ys) = true
  | [], _, _ => by simp only [toPys, PySem.W.alikeAll]
  | _ :: _, [], _ => by simp only [toPys, PySem.W.alikeAll]
  | x :: xs, y :: ys, h => by
    have h1 := Bool.and_eq_true_iff.mp (show (alikeD x y && alikeDs xs ys) = true from h)
    simp only [toPys, PySem.W.alikeAll]
    rw [alike_py x y h1.1, alike_pys xs ys h1.2]
    rfl
end
mutual
theorem lt_py : ∀ x y : D, plainD x = true → plainD y = true → alikeD x y = true → PySem.W.dataLt (toPy x) (toPy y) = ltD x y
  | .non, y, _, _, h => by
    cases y <;> first | cases h | skip
    simp only [toPy, ltD]
    unfold PySem.W.dataLt
    exact lex_irrefl _
  | .bl a, y, _, _, h => by
    cases y with
    | bl b =>
      simp only [toPy, ltD]
      rw [PySem.W.dataLt_bool]
      cases a <;> cases b <;> decide
    | _ => cases h
  | .int a, y, _, _, h => by
    cases y with
    | int b => simp only [toPy, ltD]; exact PySem.W.dataLt_int _ _
    | _ => cases h
  | .str a, y, _, _, h => by
    cases y with
    | str b => simp only [toPy, ltD]; rw [PySem.W.dataLt_str]; exact lexL_lt _ _
    | _ => cases h
  | .tup xs, y, px, py, h => by
    cases y with
    | tup ys => simp only [toPy, ltD]; rw [PySem.W.dataLt_tuple]; exact lt_pys xs ys px py h
    | _ => cases h
  | .lst xs, y, px, py, h => by
    cases y with
    | lst ys => simp only [toPy, ltD]; rw [PySem.W.dataLt_list]; exact lt_pys xs ys px py h
    | _ => cases h
  | .ref _, y, px, _, h => by cases px
  | .glo _, y, px, _, h => by cases px
theorem lt_pys : ∀ xs ys : List D, plainDs xs = true → plainDs ys = true → alikeDs xs ys = true → PyProof.Rows.lexLt itemOrd (PySem.W.keyToksAll (toPys xs)) (PySem.W.keyToksAll (toPys ys)) = ltDs xs ys
  | [], [], _, _, _ => by simp only [toPys, ltDs]; exact lex_irrefl _
  | [], y :: ys, _, _, _ => by
    simp only [toPys, ltDs, PySem.W.keyToksAll]
    rw [lex_diff (O := itemOrd) (by simp)]
    decide
  | x :: xs, [], _, _, _ => by
    simp only [toPys, ltDs, PySem.W.keyToksAll]
    rw [lex_diff (O := itemOrd) (by simp)]
    decide
  | x :: xs, y :: ys, px, py, h => by
    have h1 := Bool.and_eq_true_iff.mp (show (alikeD x y && alikeDs xs ys) = true from h)
    have h2 := Bool.and_eq_true_iff.mp (show (plainD x && plainDs xs) = true from px)
    have h3 := Bool.and_eq_true_iff.mp (show (plainD y && plainDs ys) = true from py)
    simp only [toPys, ltDs]
    rw [PySem.W.dataLt_cons (alike_py x y h1.1), eqv_py x y h2.1 h3.1, lt_pys xs ys h2.2 h3.2 h1.2, lt_py x y h2.1 h3.1 h1.1]
end
theorem relV_plain {x : V} {u : Value} {c : Bool} (r : RelV x u) : plainIs u (.bool c) = true ∧ plainIs u .none = true := by
  cases x with
  | non => cases r; exact ⟨rfl, rfl⟩
  | bl b => cases r; exact ⟨rfl, rfl⟩
  | int i => obtain ⟨t, rfl⟩ := r; exact ⟨rfl, rfl⟩
  | str y => obtain ⟨t, rfl⟩ := r; exact ⟨rfl, rfl⟩
  | byt y => obtain ⟨t, rfl⟩ := r; exact ⟨rfl, rfl⟩
  | flt y => obtain ⟨t, rfl⟩ := r; exact ⟨rfl, rfl⟩
  | ref a => cases r; exact ⟨rfl, rfl⟩
  | ty n => cases r; exact ⟨rfl, rfl⟩
section
variable {X : Cx}
theorem same_c {G : Gm} {H : Hp} {M : DM} {x y : V} {v u : Value} {d e : D} {b : Bool} (rx : RelV x v) (ry : RelV y u) (a : Rp G H M x d) (c : Rp G H M y e) (h : sameC d e = some b) : plainIs v u = true ∧ (v == u) = b := by
  cases e with
  | non =>
    obtain rfl := c.inv_non
    obtain rfl : u = Value.none := ry
    refine ⟨(relV_plain (c := true) rx).2, ?_⟩
    cases a <;> (simp only [sameC, Option.some.injEq] at h; subst h) <;> first
      | (obtain ⟨t, rfl⟩ := rx; rfl)
      | (cases rx; rfl)
  | bl k =>
    obtain rfl := c.inv_bl
    obtain rfl : u = Value.bool k := ry
    refine ⟨(relV_plain rx).1, ?_⟩
    cases a <;> (simp only [sameC, Option.some.injEq] at h; subst h) <;> first
      | (obtain ⟨t, rfl⟩ := rx; rfl)
      | (cases rx; rfl)
      | skip
    rename_i b
    cases rx
    cases b <;> cases k <;> rfl
  | _ => cases h
theorem sign_of {x : D} {c : Nat} (h : signOf x = some c) : x = .str [c] := by
  unfold signOf at h
  split at h
  · injection h with e; subst e; rfl
  · cases h
theorem dec_contains (s : List Nat) (c : Nat) : decide (c ∈ s) = s.contains c := by
  rw [Bool.eq_iff_iff]; simp
theorem any_py (d : D) (hd : plainD d = true) : ∀ ds : List D, plainDs ds = true → ((toPys ds).any fun z => PyData.eqv z (toPy d)) = ds.any fun z => eqD z d
  | [], _ => rfl
  | x :: xs, h => by
    have h1 := Bool.and_eq_true_iff.mp (show (plainD x && plainDs xs) = true from h)
    simp only [toPys, List.any_cons]
    rw [eqv_py x d h1.1 hd, any_py d hd xs h1.2]
/-- a sequence is read as data -/
theorem seq_py {G : Gm} {H : Hp} {M : DM} {y : V} {e : D} {ds : List D} (rm : RM G H M) (b : Rp G H M y e) (h : seqOf M e = some ds) (p : plainDs ds = true) :
    (Dp G.K H y (.list (toPys ds)) ∨ Dp G.K H y (.tuple (toPys ds))) ∧ PyData.canLayAll0 (toPys ds) = true := by
  cases b with
  | tup s z r => cases h; exact ⟨.inr (.tup s (r.py p).1), (r.py p).2⟩
  | lst s z r => cases h; exact ⟨.inl (.lst (.inl (.inr ⟨_, s⟩)) (r.py p).1), (r.py p).2⟩
  | ref hm =>
    rename_i a mo
    simp only [seqOf, hm] at h
    cases mo with
    | lst es =>
      cases h
      obtain ⟨xs, hx, rs⟩ := rm.getL hm
      exact ⟨.inl (.lst (.of hx) (rs.py p).1), (rs.py p).2⟩
    | dct kvs => cases h
  | _ => cases h
theorem res_map {α : Type} {r : Option α} {f : α → Prop × D} {M : DM} {Q : QD} (h : res (r.map f) M Q) : ∃ k, r = some k ∧ (f k).1 ∧ Q (f k).2 M := by
  cases r with
  | none => exact h.elim
  | some k => exact ⟨k, rfl, h⟩
/-! ### written dicts -/
theorem mkS_inj {x y : List Nat} (h : mkS x = mkS y) : x = y := by
  have := congrArg (fun z : Str => z.cps.toList) h
  simpa [mkS] using this
theorem dkK_inj {a b : Int ⊕ List Nat} (h : dkK a = dkK b) : a = b := by
  cases a <;> cases b <;> simp only [dkK] at h
  · rw [Sum.inl.inj h]
  · cases h
  · cases h
  · rw [mkS_inj (Sum.inr.inj h)]
theorem val_get {G : Gm} {H : Hp} {M : DM} (k : Int ⊕ List Nat) : ∀ {vs : List (Key × V)} {kvs : List ((Int ⊕ List Nat) × D)}, vs.map (·.1) = kvs.map (fun q => dkK q.1) → Rps G H M (vs.map (·.2)) (kvs.map (·.2)) →
    (match getD kvs k with
    | some d => ∃ v, valV vs (dkK k) = some v ∧ Rp G H M v d
    | none => valV vs (dkK k) = none)
  | [], [], _, _ => rfl
  | [], _ :: _, h, _ => by cases h
  | _ :: _, [], h, _ => by cases h
  | (j, v) :: vs, (l, d) :: kvs, h, r => by
    simp only [List.map_cons, List.cons.injEq] at h
    cases r with
    | cons a r =>
      by_cases e : l = k
      · subst e
        have e1 : getD ((l, d) :: kvs) l = some d := by simp only [getD, if_true]
        rw [e1]
        exact ⟨v, valV_pos h.1, a⟩
      · have e1 : getD ((l, d) :: kvs) k = getD kvs k := by simp only [getD, if_neg e]
        rw [e1, valV_neg (fun z => e (dkK_inj (h.1.symm.trans z)))]
        exact val_get k h.2 r
theorem RM.getK {G : Gm} {H : Hp} {M : DM} (r : RM G H M) {a : Addr} {kvs : List ((Int ⊕ List Nat) × D)} (h : M a = some (.dct kvs)) : ∃ vs, H a = some (.dK vs) ∧ vs.map (·.1) = kvs.map (fun q => dkK q.1) ∧ Rps G H M (vs.map (·.2)) (kvs.map (·.2)) := r.o a _ h
theorem key_is {G : Gm} {H : Hp} {M : DM} {x : V} {d : D} {k : Int ⊕ List Nat} (r : Rp G H M x d) (h : keyD d = some k) : x = kV (dkK k) := by
  cases d with
  | int i => cases h; exact r.inv_int
  | str l => cases h; exact r.inv_str.1
  | _ => cases h
theorem dct_get {G : Gm} {H : Hp} {M : DM} (rm : RM G H M) {a : Addr} {kvs : List ((Int ⊕ List Nat) × D)} (hm : M a = some (.dct kvs)) (k : Int ⊕ List Nat) : ∃ o, DGet H a (kV (dkK k)) o ∧ o.isSome = (getD kvs k).isSome ∧ ∀ d, getD kvs k = some d → ∃ v, o = some v ∧ Rp G H M v d := by
  obtain ⟨vs, e, hk, rs⟩ := rm.getK hm
  have h := val_get k hk rs
  refine ⟨_, DGet.k e, ?_, fun d hd => ?_⟩
  · cases hg : getD kvs k with
    | none => rw [hg] at h; rw [h]; rfl
    | some d => rw [hg] at h; obtain ⟨v, h, _⟩ := h; rw [h]; rfl
  · rw [hd] at h
    exact h
theorem op_in' (hu : X.A.units + 190 < cLine) (neg : Bool) : OpR X (compareOp (if neg = true then .NotIn else .In)) (upO (gm X) fun x y M Q => res (inR M neg x y) M Q) := by
  rintro pins s σ H x y v u Qv I rx ry ⟨M, d, e, Q, rm, a, b, q, w⟩
  have seq : res ((seqOf M e).map fun ds => (okIn d ds, .bl (neg != ds.any fun z => eqD z d))) M Q → wpAny (model X.prog X.w) X.A (compareOp (if neg = true then .NotIn else .In) v u) (EP X pins σ Qv) X.xe s := fun q => by
    obtain ⟨ds, h, ⟨p1, p2, z⟩, q⟩ := res_map q
    obtain ⟨h2, c2⟩ := seq_py rm b h p2
    have h1 := a.py p1
    cases neg with
    | false =>
      refine op_inAny hu pins s σ H _ _ v u Qv I rx ry ⟨_, _, h1.1, h2, h1.2, c2, by rw [deep_py _ p1, deep_pys _ p2]; exact z, ?_⟩
      rw [any_py d p1 ds p2]
      refine lq rm (.bl _) ?_ w
      simpa using q
    | true =>
      refine op_notInAny hu pins s σ H _ _ v u Qv I rx ry ⟨_, _, h1.1, h2, h1.2, c2, by rw [deep_py _ p1, deep_pys _ p2]; exact z, ?_⟩
      rw [any_py d p1 ds p2]
      refine lq rm (.bl _) ?_ w
      simpa using q
  cases e with
  | str t =>
    obtain ⟨c, hs, q⟩ := res_map (r := signOf d) (f := fun c => (True, D.bl (neg != t.contains c))) q
    have e1 := sign_of hs
    subst e1
    obtain ⟨rfl, z1⟩ := a.inv_str; obtain ⟨rfl, z2⟩ := b.inv_str
    cases neg with
    | false =>
      refine op_in_sign pins s σ H _ _ v u Qv I rx ry ⟨c, _, rfl, rfl, ?_⟩
      rw [mkS_cps, dec_contains]
      refine lq rm (.bl _) ?_ w
      simpa using q.2
    | true =>
      refine op_notIn_sign pins s σ H _ _ v u Qv I rx ry ⟨c, _, rfl, rfl, ?_⟩
      rw [mkS_cps, dec_contains]
      refine lq rm (.bl _) ?_ w
      simpa using q.2
  | ref r =>
    obtain ⟨rfl, mo, hm⟩ := b.inv_ref
    cases mo with
    | lst ds => exact seq (by simpa only [inR, seqOf, hm, Option.map_some] using q)
    | dct kvs =>
      simp only [inR, hm] at q
      obtain ⟨k, hk, q⟩ := res_map q
      obtain rfl := key_is a hk
      cases ry
      obtain ⟨o, g, e1, _⟩ := dct_get rm hm k
      cases neg with
      | false =>
        refine d_in (by omega) I g rx fun s' I' => ⟨.bl o.isSome, H, I', rfl, ?_⟩
        rw [e1]
        exact lq rm (.bl _) (by simpa using q.2) w
      | true =>
        refine d_notIn (by omega) I g rx fun s' I' => ⟨.bl (!o.isSome), H, I', rfl, ?_⟩
        rw [e1]
        exact lq rm (.bl _) (by simpa using q.2) w
  | _ => exact seq q
theorem op_cmp (hu : X.A.units + 190 < cLine) (o : Cop) : OpR X (compareOp (copOf o)) (upO (gm X) fun x y M Q => res (cmpR M o x y) M Q) := by
  rintro pins s σ H x y v u Qv I rx ry ⟨M, d, e, Q, rm, a, b, q, w⟩
  have hu0 : X.A.units < cLine := by omega
  cases o with
  | eq =>
    obtain ⟨⟨p1, p2, z⟩, q⟩ := (show okEq (flatR M d) (flatR M e) ∧ _ from q)
    obtain ⟨h1, c1⟩ := a.flat rm p1
    obtain ⟨h2, c2⟩ := b.flat rm p2
    refine op_eqAny hu pins s σ H _ _ v u Qv I rx ry ⟨_, _, h1, h2, c1, c2, by rw [deep_py _ p1, deep_py _ p2]; exact z, ?_⟩
    rw [eqv_py _ _ p1 p2]
    exact lq rm (.bl _) q w
  | ne =>
    obtain ⟨⟨p1, p2, z⟩, q⟩ := (show okEq (flatR M d) (flatR M e) ∧ _ from q)
    obtain ⟨h1, c1⟩ := a.flat rm p1
    obtain ⟨h2, c2⟩ := b.flat rm p2
    refine op_neAny hu pins s σ H _ _ v u Qv I rx ry ⟨_, _, h1, h2, c1, c2, by rw [deep_py _ p1, deep_py _ p2]; exact z, ?_⟩
    rw [eqv_py _ _ p1 p2]
    exact lq rm (.bl _) q w
  | lt =>
    cases d <;> cases e <;> first | exact q.elim | skip
    · obtain rfl := a.inv_int; obtain rfl := b.inv_int
      exact op_lt pins s σ H _ _ v u Qv I rx ry ⟨_, _, rfl, rfl, lq rm (.bl _) q.2 w⟩
    · obtain ⟨rfl, z1⟩ := a.inv_str; obtain ⟨rfl, z2⟩ := b.inv_str
      refine op_lt_str pins s σ H _ _ v u Qv I rx ry ⟨_, _, rfl, rfl, ?_⟩
      rw [mkS_cps, mkS_cps, lexL_lt]
      exact lq rm (.bl _) q.2 w
    · rename_i xs ys
      obtain ⟨⟨p1, p2, al, z⟩, q⟩ := (show (plainDs xs = true ∧ plainDs ys = true ∧ alikeDs xs ys = true ∧ min (deepDs xs) (deepDs ys) ≤ 180) ∧ _ from q)
      have q1 := a.py (show plainD (.tup xs) = true from p1)
      have q2 := b.py (show plainD (.tup ys) = true from p2)
      obtain ⟨as, r1⟩ := Dp.reads I _ x v q1.1 rx
      obtain ⟨bs, r2⟩ := Dp.reads I _ y u q2.1 ry
      have al2 := alike_py (.tup xs) (.tup ys) al
      refine PySem.W.lt_data r1 r2 al2 (by simp only [toPy]; intro h; cases h) ?_ ?_
      · rw [deep_py (.tup xs) p1, deep_py (.tup ys) p2]
        simp only [deepD]
        omega
      · rw [lt_py (.tup xs) (.tup ys) p1 p2 al]
        exact ⟨.bl _, H, I, rfl, lq rm (.bl _) q w⟩
  | le =>
    cases d <;> cases e <;> first | exact q.elim | skip
    obtain rfl := a.inv_int; obtain rfl := b.inv_int
    exact op_le pins s σ H _ _ v u Qv I rx ry ⟨_, _, rfl, rfl, lq rm (.bl _) q.2 w⟩
  | gt =>
    cases d <;> cases e <;> first | exact q.elim | skip
    obtain rfl := a.inv_int; obtain rfl := b.inv_int
    exact op_gt pins s σ H _ _ v u Qv I rx ry ⟨_, _, rfl, rfl, lq rm (.bl _) q.2 w⟩
  | ge =>
    cases d <;> cases e <;> first | exact q.elim | skip
    obtain rfl := a.inv_int; obtain rfl := b.inv_int
    exact op_ge pins s σ H _ _ v u Qv I rx ry ⟨_, _, rfl, rfl, lq rm (.bl _) q.2 w⟩
  | isin => exact op_in' hu false pins s σ H _ _ v u Qv I rx ry ⟨M, d, e, Q, rm, a, b, q, w⟩
  | notin => exact op_in' hu true pins s σ H _ _ v u Qv I rx ry ⟨M, d, e, Q, rm, a, b, q, w⟩
  | is =>
    obtain ⟨k, hs, q⟩ := res_map (r := sameC d e) (f := fun b => (True, D.bl b)) q
    obtain ⟨p, r⟩ := same_c rx ry a b hs
    refine wpAny_is_plain p ?_
    rw [r]
    exact ⟨.bl k, H, I, rfl, lq rm (.bl _) q.2 w⟩
  | isnot =>
    obtain ⟨k, hs, q⟩ := res_map (r := sameC d e) (f := fun b => (True, D.bl (!b))) q
    obtain ⟨p, r⟩ := same_c rx ry a b hs
    refine wpAny_isNot_plain p ?_
    rw [r]
    exact ⟨.bl (!k), H, I, rfl, lq rm (.bl _) q.2 w⟩
end
end Dw
set_option Elab.async false
set_option linter.all false
set_option maxRecDepth 100000
set_option maxHeartbeats 4000000
/-! Dw4: further operations: truth, isinstance, places, slices, built-in functions and methods. -/
namespace Dw
open PySem PySem.Spec PyProof.Rows L2

section
variable {X : Cx}
/-- a value's truth -/
theorem truV {G : Gm} {H : Hp} {M : DM} {x : V} {d : D} {b : Bool} (rm : RM G H M) (r : Rp G H M x d) (h : truthD M d = some b) : TruV G.K x H b := by
  cases r with
  | non => cases h; rfl
  | bl c => cases h; rfl
  | int i => cases h; rfl
  | str l z =>
    cases h
    refine ⟨by rw [mkS_len]; exact z.z, ?_⟩
    rw [mkS_len]
    cases l <;> rfl
  | tup s z r =>
    cases h
    refine .inr (.inl ⟨_, s, ?_⟩)
    cases r <;> rfl
  | lst s z r =>
    cases h
    refine .inl ⟨_, .inl (.inr ⟨_, s⟩), ?_⟩
    cases r <;> rfl
  | ref hm =>
    rename_i a mo
    simp only [truthD, hm] at h
    cases mo with
    | lst es =>
      cases h
      obtain ⟨xs, hx, rs⟩ := rm.getL hm
      refine .inl ⟨xs, .of hx, ?_⟩
      cases rs <;> rfl
    | dct _ => cases h
  | glo _ => cases h
  | scr _ _ _ => cases h
  | fnv _ _ => cases h

/-! ### isinstance -/
def tyS : Ty → String
  | .str => "str"
  | .int => "int"
  | .bool => "bool"
  | .tuple => "tuple"
  | .list => "list"
  | .dict => "dict"
theorem sqT_ty {K : PySem.W.Frag} {H : Hp} {a : Addr} {xs : List V} (s : SqT K H a xs) : TyX K H (.ref a) (.type "tuple") := by
  rcases s with (s | ⟨o, s⟩) | ⟨o, its, n, hk, hc, _⟩
  · exact .base (.tup s)
  · exact .fTuple s
  · exact .kTuple hk hc
theorem rdL_ty {K : PySem.W.Frag} {H : Hp} {a : Addr} {xs : List V} (s : Rd H a (.lst xs)) : TyX K H (.ref a) (.type "list") := by
  rcases s with s | ⟨o, s⟩
  · exact .base (.lst s)
  · exact .base (.frz s)
theorem isTy_ok {G : Gm} {H : Hp} {M : DM} {x : V} {d : D} {b : Bool} {t : Ty} (rm : RM G H M) (r : Rp G H M x d) (h : isTy M d t = some b) : ∃ u, TyX G.K H x u ∧ PySem.W.kitOne G.K u (.type (tyS t)) = some b := by
  cases r with
  | non => refine ⟨_, .base .non, ?_⟩; cases t <;> cases h <;> exact kit_ty (by decide +kernel)
  | bl c => refine ⟨_, .base (.bl c), ?_⟩; cases t <;> cases h <;> exact kit_ty (by decide +kernel)
  | int i => refine ⟨_, .base (.int i), ?_⟩; cases t <;> cases h <;> exact kit_ty (by decide +kernel)
  | str l z => refine ⟨_, .base (.str _), ?_⟩; cases t <;> cases h <;> exact kit_ty (by decide +kernel)
  | tup s z r => refine ⟨_, sqT_ty s, ?_⟩; cases t <;> cases h <;> exact kit_ty (by decide +kernel)
  | lst s z r => refine ⟨_, rdL_ty (.inr ⟨_, s⟩), ?_⟩; cases t <;> cases h <;> exact kit_ty (by decide +kernel)
  | ref hm =>
    rename_i a mo
    simp only [isTy, hm] at h
    cases mo with
    | lst es =>
      obtain ⟨xs, hx, rs⟩ := rm.getL hm
      refine ⟨_, rdL_ty (.inl hx), ?_⟩
      cases t <;> cases h <;> exact kit_ty (by decide +kernel)
    | dct _ => cases h
  | glo _ => cases h
  | scr _ _ _ => cases h
  | fnv _ _ => cases h
theorem isTy_ty {G : Gm} {H : Hp} {M : DM} {x : V} {d : D} {b : Bool} {t : Ty} (rm : RM G H M) (r : Rp G H M x d) (h : isTy M d t = some b) : ∃ u, TyX G.K H x u ∧ ∀ t' b', isTy M d t' = some b' → PySem.W.kitOne G.K u (.type (tyS t')) = some b' := by
  cases r with
  | non => refine ⟨_, .base .non, fun t' b' h' => ?_⟩; cases t' <;> cases h' <;> exact kit_ty (by decide +kernel)
  | bl c => refine ⟨_, .base (.bl c), fun t' b' h' => ?_⟩; cases t' <;> cases h' <;> exact kit_ty (by decide +kernel)
  | int i => refine ⟨_, .base (.int i), fun t' b' h' => ?_⟩; cases t' <;> cases h' <;> exact kit_ty (by decide +kernel)
  | str l z => refine ⟨_, .base (.str _), fun t' b' h' => ?_⟩; cases t' <;> cases h' <;> exact kit_ty (by decide +kernel)
  | tup s z r => refine ⟨_, sqT_ty s, fun t' b' h' => ?_⟩; cases t' <;> cases h' <;> exact kit_ty (by decide +kernel)
  | lst s z r => refine ⟨_, rdL_ty (.inr ⟨_, s⟩), fun t' b' h' => ?_⟩; cases t' <;> cases h' <;> exact kit_ty (by decide +kernel)
  | ref hm =>
    rename_i a mo
    cases mo with
    | lst es =>
      obtain ⟨xs, hx, rs⟩ := rm.getL hm
      refine ⟨_, rdL_ty (.inl hx), fun t' b' h' => ?_⟩
      simp only [isTy, hm] at h'
      cases t' <;> cases h' <;> exact kit_ty (by decide +kernel)
    | dct _ => simp only [isTy, hm] at h; cases h
  | glo _ => cases h
  | scr _ _ _ => cases h
  | fnv _ _ => cases h
theorem isTys_any {K : PySem.W.Frag} {M : DM} {d : D} {u : Value} (hu : ∀ t' b', isTy M d t' = some b' → PySem.W.kitOne K u (.type (tyS t')) = some b') : ∀ {ts : List Ty} {b : Bool}, isTys M d ts = some b → PySem.W.kitAny K u (ts.map fun t => .type (tyS t)) = some b
  | [], b, h => by cases h; exact kitAny_nil
  | t :: ts, b, h => by
    unfold isTys at h
    cases e : isTy M d t with
    | none => rw [e] at h; cases h
    | some c =>
      rw [e] at h
      cases c with
      | true => cases h; exact kitAny_cons (hu t true e) (fun z => by cases z) (fun _ => rfl)
      | false => exact kitAny_cons (hu t false e) (fun _ => isTys_any hu h) (fun z => by cases z)
theorem cls_tys : ∀ ts : List Ty, Paired ClsV (ts.map fun t => V.ty (tyS t)) (ts.map fun t => Value.type (tyS t))
  | [] => .nil
  | t :: ts => .cons (.ty _) (cls_tys ts)

/-! ### places -/
theorem seqAt {G : Gm} {H : Hp} {M : DM} {y : V} {e : D} {ds : List D} (rm : RM G H M) (b : Rp G H M y e) (h : seqOf M e = some ds) :
    ∃ p xs, y = .ref p ∧ (SqL G.K H p xs ∨ SqT G.K H p xs) ∧ Rps G H M xs ds := by
  cases b with
  | tup s z r => cases h; exact ⟨_, _, rfl, .inr s, r⟩
  | lst s z r => cases h; exact ⟨_, _, rfl, .inl (.inl (.inr ⟨_, s⟩)), r⟩
  | ref hm =>
    rename_i a mo
    simp only [seqOf, hm] at h
    cases mo with
    | lst es =>
      cases h
      obtain ⟨xs, hx, rs⟩ := rm.getL hm
      exact ⟨_, _, rfl, .inl (.of hx), rs⟩
    | dct _ => cases h
  | _ => cases h
theorem ixD_eq (n : Nat) (i : Int) : ixD n i = ixN n i := rfl
theorem ix_up {H : Hp} {x y : V} {Qv : VK} {M : DM} {d e : D} {Q : QD} (rm : RM (gm X) H M) (a : Rp (gm X) H M x d) (b : Rp (gm X) H M y e) (q : res (idxR M d e) M Q) (w : ∀ v H', LQ (gm X) H M Q v H' → Qv v H') (ne : ∀ z, e ≠ .str z) : rIx X.K x y H Qv := by
  cases e with
  | int k =>
    obtain rfl := b.inv_int
    have seq : res ((seqOf M d).bind fun ds => ((ixD ds.length k).bind fun j => ds[j]?).map fun d => (True, d)) M Q → rIx X.K x (.int k) H Qv := fun q => by
      cases h : seqOf M d with
      | none => rw [h] at q; exact q.elim
      | some ds =>
        rw [h] at q
        obtain ⟨d', hd, q⟩ := res_map (r := (ixD ds.length k).bind fun j => ds[j]?) (f := fun d => (True, d)) q
        obtain ⟨p, xs, rfl, hs, rs⟩ := seqAt rm a h
        obtain ⟨j, hj, hd⟩ := Option.bind_eq_some_iff.mp hd
        obtain ⟨v', hv, rv⟩ := rs.get hd
        have at_ : atI xs k = some v' := by
          unfold atI
          rw [rs.length, ← ixD_eq, hj]
          exact hv
        rcases hs with hs | hs
        · exact .inl ⟨p, xs, k, v', rfl, rfl, hs, at_, lq rm rv q.2 w⟩
        · exact .inr (.inl ⟨p, xs, k, v', rfl, rfl, hs, at_, lq rm rv q.2 w⟩)
    cases d with
    | str t =>
      obtain ⟨rfl, z1⟩ := a.inv_str
      obtain ⟨c, hc, q⟩ := res_map (r := (ixD t.length k).bind fun j => t[j]?) (f := fun c => (True, D.str [c])) q
      obtain ⟨j, hj, hd⟩ := Option.bind_eq_some_iff.mp hc
      refine .inr (.inr ⟨mkS t, k, c, rfl, rfl, by rw [mkS_len]; exact z1.z, ?_, ?_⟩)
      · unfold atI
        rw [mkS_cps, ← ixD_eq, hj]
        exact hd
      · refine lq rm (.str [c] (z1.sub (fun c' hc => ?_) ?_)) q.2 w
        · obtain rfl : c' = c := by simpa using hc
          exact List.mem_of_getElem? hd
        · have := (List.getElem?_eq_some_iff.mp hd).1
          simp only [List.length_singleton]
          omega
    | _ => exact seq q
  | str z => exact absurd rfl (ne z)
  | _ => cases d <;> exact q.elim
theorem ix_any (hu : X.A.units + 1 < cLine) : IxR X (upO (gm X) fun x y M Q => res (idxR M x y) M Q) := by
  rintro value slice pins s σ H x y v u Qv I rx ry ⟨M, d, e, Q, rm, a, b, q, w⟩ hs
  cases e with
  | str z =>
    cases d with
    | ref r =>
      obtain ⟨rfl, mo, hm⟩ := a.inv_ref
      cases mo with
      | lst ds => simp only [idxR, hm] at q; exact q.elim
      | dct kvs =>
        simp only [idxR, hm] at q
        obtain ⟨d, hd, q⟩ := res_map q
        obtain rfl := key_is b (k := .inr z) rfl
        cases rx
        obtain ⟨o, g, _, e2⟩ := dct_get rm hm (.inr z)
        obtain ⟨v', rfl, av⟩ := e2 d hd
        exact tail_any (dict_typeIs I g) PySem.F.slot_dict_getitem.lookup (d_getItem hu I g ry fun w' s' I' rw' => ⟨v', H, I', rw', lq rm av q.2 w⟩) hs
    | _ => exact q.elim
  | _ => exact ix_seq value slice pins s σ H x y v u Qv I rx ry (ix_up rm a b q w fun z e => nomatch e) hs

/-! ### slices -/
theorem sixD_eq (n d : Nat) (o : Option Int) : sixD n d o = HT.sIx n d o := by cases o <;> rfl
theorem cutD_len {α : Type} (xs : List α) (lo hi : Option Int) : (cutD xs lo hi).length ≤ xs.length := by
  unfold cutD
  rw [List.length_take, List.length_drop]
  omega
theorem cutD_mem {α : Type} {xs : List α} {lo hi : Option Int} {c : α} (h : c ∈ cutD xs lo hi) : c ∈ xs := List.mem_of_mem_drop (List.mem_of_mem_take h)
theorem cut_rps {G : Gm} {H : Hp} {M : DM} {xs : List V} {ds : List D} (r : Rps G H M xs ds) (lo hi : Option Int) : Rps G H M (cutV xs lo hi) (cutD ds lo hi) := by
  unfold cutV cutD
  rw [sixD_eq, sixD_eq, r.length]
  exact (r.drop _).take _
theorem sl_any : SlR X (fun x lo hi H Qv => ∃ M d Q, RM (gm X) H M ∧ Rp (gm X) H M x d ∧ res (slcV M d lo hi) M Q ∧ ∀ v H', LQ (gm X) H M Q v H' → Qv v H') := by
  rintro pins s σ H x v vl vu lo hi sl Qv I rx hs pl pu ⟨M, d, Q, rm, a, q, w⟩
  cases d with
  | str t =>
    obtain ⟨rfl, z1⟩ := a.inv_str
    refine sl_str pins s σ H _ v vl vu lo hi sl Qv I rx hs pl pu ⟨_, rfl, by rw [mkS_len]; exact z1.z, ?_⟩
    have e : cutS (mkS t) lo hi = mkS (cutD t lo hi) := by
      unfold cutS cutD
      rw [mkS_cps, mkS_len, sixD_eq, sixD_eq]
      rfl
    rw [e]
    exact lq rm (.str _ (z1.sub (fun c hc => cutD_mem hc) (cutD_len _ _ _))) q.2 w
  | tup ds =>
    obtain ⟨p, xs, rfl, hq, z, rs⟩ := a.inv_tup
    refine sl_tupA pins s σ H _ v vl vu lo hi sl Qv I rx hs pl pu ⟨p, xs, rfl, hq, fun hw => ?_, fun _ p' n => ?_⟩
    · have e : cutD ds lo hi = ds := by
        unfold cutD
        rw [sixD_eq, sixD_eq, ← rs.length, hw.1, hw.2]
        simp [rs.length]
      have q : Q (.tup (cutD ds lo hi)) M := q.2
      rw [e] at q
      exact lq rm a q w
    · exact lqTup rm (cut_rps rs lo hi) (Nat.le_trans (cutD_len _ _ _) z) n q.2 w
  | lst ds =>
    obtain ⟨p, xs, rfl, hq, z, rs⟩ := a.inv_lst
    exact slr_fz sl_list pins s σ H _ v vl vu lo hi sl Qv I rx hs pl pu ⟨p, xs, rfl, .inl hq, fun p' n => lqLst rm (cut_rps rs lo hi) (Nat.le_trans (cutD_len _ _ _) z) n q.2 w⟩
  | scr ds =>
    cases a with
    | scr hq z rs => exact slr_fz sl_list pins s σ H _ v vl vu lo hi sl Qv I rx hs pl pu ⟨_, _, rfl, hq.sql, fun p' n => lqLst rm (cut_rps rs lo hi) (Nat.le_trans (cutD_len _ _ _) z) n q.2 w⟩
  | ref r =>
    obtain ⟨rfl, mo, hm⟩ := a.inv_ref
    cases mo with
    | lst ds =>
      simp only [slcV, hm, res] at q
      obtain ⟨xs, hx, rs⟩ := rm.getL hm
      obtain ⟨_, _, _, lE, z, _⟩ := rd_at I (.inl hx)
      exact slr_fz sl_list pins s σ H _ v vl vu lo hi sl Qv I rx hs pl pu ⟨r, xs, rfl, .of hx, fun p' n => lqLst rm (cut_rps rs lo hi) (Nat.le_trans (cutD_len _ _ _) (by rw [← rs.length]; exact z)) n q.2 w⟩
    | dct _ => simp only [slcV, hm, res] at q
  | _ => exact q.elim
end
end Dw
set_option Elab.async false
set_option linter.all false
set_option maxRecDepth 100000
set_option maxHeartbeats 4000000
/-! Dw5: built-in functions and methods by values. -/
namespace Dw
open PySem PySem.Spec PyProof.Rows L2

def upL (G : Gm) (t : List D → DM → QD → Prop) : List V → Hp → VK → Prop := fun xs H Qv => ∃ M ds Q, RM G H M ∧ Rps G H M xs ds ∧ t ds M Q ∧ ∀ v H', LQ G H M Q v H' → Qv v H'
theorem callr_wk {X : Cx} {f : Value} {r r' : List V → Hp → VK → Prop} (h : CallR X f r) (w : ∀ xs H Q, r' xs H Q → r xs H Q) : CallR X f r' :=
  fun pins s σ H xs us Q I rv q => h pins s σ H xs us Q I rv (w xs H Q q)

theorem rps_nil {G : Gm} {H : Hp} {M : DM} {xs : List V} (r : Rps G H M xs []) : xs = [] := by cases r; rfl
theorem rps_one {G : Gm} {H : Hp} {M : DM} {xs : List V} {d : D} (r : Rps G H M xs [d]) : ∃ v, xs = [v] ∧ Rp G H M v d := by
  cases r with
  | cons a r => cases r; exact ⟨_, rfl, a⟩
theorem rps_bls {G : Gm} {H : Hp} {M : DM} : ∀ {xs : List V} {ds : List D} {bs : List Bool}, Rps G H M xs ds → blsOf ds = some bs → xs = bs.map V.bl
  | _, _, _, .nil, h => by cases h; rfl
  | _, _, bs, @Rps.cons _ _ _ v d vs ds a r, h => by
    cases d with
    | bl b =>
      have h : (blsOf ds).map (b :: ·) = some bs := h
      cases e : blsOf ds with
      | none => rw [e] at h; cases h
      | some cs =>
        rw [e] at h
        cases h
        rw [a.inv_bl, rps_bls r e]
        rfl
    | _ => cases h
theorem rps_ints {G : Gm} {H : Hp} {M : DM} : ∀ {xs : List V} {ds : List D} {bs : List Int}, Rps G H M xs ds → intsOf ds = some bs → xs = bs.map V.int
  | _, _, _, .nil, h => by cases h; rfl
  | _, _, bs, @Rps.cons _ _ _ v d vs ds a r, h => by
    cases d with
    | int b =>
      have h : (intsOf ds).map (b :: ·) = some bs := h
      cases e : intsOf ds with
      | none => rw [e] at h; cases h
      | some cs =>
        rw [e] at h
        cases h
        rw [a.inv_int, rps_ints r e]
        rfl
    | _ => cases h
theorem rps_strs {G : Gm} {H : Hp} {M : DM} : ∀ {xs : List V} {ds : List D} {ss : List (List Nat)}, Rps G H M xs ds → strsOf ds = some ss → xs = ss.map (fun l => V.str (mkS l)) ∧ ∀ l ∈ ss, okS l
  | _, _, _, .nil, h => by cases h; exact ⟨rfl, fun _ z => by cases z⟩
  | _, _, bs, @Rps.cons _ _ _ v d vs ds a r, h => by
    cases d with
    | str b =>
      have h : (strsOf ds).map (b :: ·) = some bs := h
      cases e : strsOf ds with
      | none => rw [e] at h; cases h
      | some cs =>
        rw [e] at h
        cases h
        obtain ⟨e1, z⟩ := rps_strs r e
        obtain ⟨e2, z2⟩ := a.inv_str
        refine ⟨by rw [e1, e2]; rfl, fun l hl => ?_⟩
        rcases List.mem_cons.mp hl with q | q
        · rw [q]; exact z2
        · exact z l q
    | _ => cases h

theorem intS_ok {i : Int} (h : i.natAbs.log2 < 1920) : okS (intS i) := by
  refine ⟨?_, fun c hc => ?_⟩
  · have e := int_text_fits h
    show (Str.ofString (toString i)).cps.toList.length ≤ sizeLine
    rw [Array.length_toList]
    exact e
  · have e : intS i = (toString i).toList.map Char.toNat := by
      show (cpsOfBytes 0 0 (toString i).toByteArray.data.toList) = _
      exact cpsOfBytes_string _
    rw [e] at hc
    obtain ⟨k, hk, rfl⟩ := List.mem_map.mp hc
    have := int_ascii i k hk
    omega
theorem mkS_intS (i : Int) : mkS (intS i) = Str.ofString (toString i) := by
  show Str.mk ((Str.ofString (toString i)).cps.toList.toArray) = _
  rw [Array.toArray_toList]

theorem maxI_spec : ∀ {ns : List Int}, ns ≠ [] → maxI ns ∈ ns ∧ ∀ m ∈ ns, m ≤ maxI ns
  | [], h => absurd rfl h
  | [i], _ => ⟨by simp [maxI], fun m hm => by simp at hm; subst hm; simp [maxI]⟩
  | i :: j :: r, _ => by
    obtain ⟨h1, h2⟩ := maxI_spec (ns := j :: r) (by simp)
    have e : maxI (i :: j :: r) = if maxI (j :: r) > i then maxI (j :: r) else i := rfl
    rw [e]
    by_cases c : maxI (j :: r) > i
    · rw [if_pos c]
      refine ⟨List.mem_cons_of_mem _ h1, fun m hm => ?_⟩
      rcases List.mem_cons.mp hm with rfl | hm
      · omega
      · exact h2 m hm
    · rw [if_neg c]
      refine ⟨by simp, fun m hm => ?_⟩
      rcases List.mem_cons.mp hm with rfl | hm
      · omega
      · have := h2 m hm
        omega
def bltName : Blt → Str
  | .len => "len"
  | .int => "int"
  | .str => "str"
  | .abs => "abs"
  | .tuple => "tuple"
  | .list => "list"
  | .all => "all"
  | .any => "any"
  | .sum => "sum"
  | .max => "max"
def bltVal : Blt → Value
  | .len => .builtin "len"
  | .int => .type "int"
  | .str => .type "str"
  | .abs => .builtin "abs"
  | .tuple => .type "tuple"
  | .list => .type "list"
  | .all => .builtin "all"
  | .any => .builtin "any"
  | .sum => .builtin "sum"
  | .max => .builtin "max"
theorem blt_boot (b : Blt) : bootBuiltins (bltName b) = some (bltVal b) := by cases b <;> decide +kernel
section
variable {X : Cx}
theorem call_blt (hc : X.calm = true) (b : Blt) : CallR X (bltVal b) (upL (gm X) fun ds M Q => res (bltR M b ds) M Q) := by
  rintro pins s σ H xs us Qv I rv ⟨M, ds, Q, rm, a, q, w⟩
  cases b with
  | len =>
    match ds, a, q with
    | [d], a, q =>
      obtain ⟨v, rfl, a1⟩ := rps_one a
      cases d with
      | str x =>
        obtain ⟨rfl, z⟩ := a1.inv_str
        refine call_len pins s σ H _ us Qv I rv ⟨_, x.length, rfl, ⟨by rw [mkS_len]; exact z.z, by rw [mkS_len]⟩, lq rm (.int _) q.2 w⟩
      | tup es =>
        obtain ⟨p, ys, rfl, hs, z, rs⟩ := a1.inv_tup
        exact call_len pins s σ H _ us Qv I rv ⟨_, es.length, rfl, .inr ⟨ys, hs, rs.length.symm⟩, lq rm (.int _) q.2 w⟩
      | lst es =>
        obtain ⟨p, ys, rfl, hs, z, rs⟩ := a1.inv_lst
        exact call_len pins s σ H _ us Qv I rv ⟨_, es.length, rfl, .inl ⟨ys, .inl hs, rs.length.symm⟩, lq rm (.int _) q.2 w⟩
      | ref r =>
        obtain ⟨rfl, mo, hm⟩ := a1.inv_ref
        cases mo with
        | lst es =>
          simp only [bltR, lenOf, hm, res, Option.map_some] at q
          obtain ⟨ys, hx, rs⟩ := rm.getL hm
          exact call_len pins s σ H _ us Qv I rv ⟨_, es.length, rfl, .inl ⟨ys, .of hx, rs.length.symm⟩, lq rm (.int _) q.2 w⟩
        | dct _ => simp [bltR, lenOf, hm, res] at q
      | _ => exact q.elim
  | int =>
    match ds, a, q with
    | [.int i], a, q =>
      obtain ⟨v, rfl, a1⟩ := rps_one a
      obtain rfl := a1.inv_int
      exact call_int1 pins s σ H _ us Qv I rv (.inl ⟨i, rfl, lq rm (.int _) q.2 w⟩)
    | [.bl i], a, q =>
      obtain ⟨v, rfl, a1⟩ := rps_one a
      obtain rfl := a1.inv_bl
      exact call_int1 pins s σ H _ us Qv I rv (.inr ⟨i, rfl, lq rm (.int _) q.2 w⟩)
  | str =>
    match ds, a, q with
    | [.int i], a, q =>
      obtain ⟨v, rfl, a1⟩ := rps_one a
      obtain rfl := a1.inv_int
      refine call_str_int pins s σ H _ us Qv I rv ⟨i, rfl, q.1, ?_⟩
      have e := lq (Qv := Qv) rm (.str (intS i) (intS_ok q.1)) q.2 w
      rw [mkS_intS] at e
      exact e
  | abs =>
    match ds, a, q with
    | [.int i], a, q =>
      obtain ⟨v, rfl, a1⟩ := rps_one a
      obtain rfl := a1.inv_int
      exact call_abs pins s σ H _ us Qv I rv ⟨i, rfl, lq rm (.int _) q.2 w⟩
  | tuple =>
    match ds, a, q with
    | [d], a, q =>
      obtain ⟨v, rfl, a1⟩ := rps_one a
      cases d with
      | tup es =>
        obtain ⟨p, ys, rfl, hs, z, rs⟩ := a1.inv_tup
        exact call_tuple_of pins s σ H _ us Qv I rv ⟨p, ys, rfl, .inr ⟨hs, lq rm (.tup hs z rs) q.2 w⟩⟩
      | lst es =>
        obtain ⟨p, ys, rfl, hs, z, rs⟩ := a1.inv_lst
        exact call_tuple_of pins s σ H _ us Qv I rv ⟨p, ys, rfl, .inl ⟨.inl hs, fun l n => lqTup rm rs z n q.2 w⟩⟩
      | ref r =>
        obtain ⟨rfl, mo, hm⟩ := a1.inv_ref
        cases mo with
        | lst es =>
          simp only [bltR, seqOf, hm, res, Option.map_some] at q
          obtain ⟨ys, hx, rs⟩ := rm.getL hm
          obtain ⟨_, _, _, lE, z, _⟩ := rd_at I (.inl hx)
          exact call_tuple_of pins s σ H _ us Qv I rv ⟨r, ys, rfl, .inl ⟨.of hx, fun l n => lqTup rm rs (by rw [← rs.length]; exact z) n q.2 w⟩⟩
        | dct _ => simp [bltR, seqOf, hm, res] at q
      | _ => exact q.elim
  | list =>
    match ds, a, q with
    | [d], a, q =>
      obtain ⟨v, rfl, a1⟩ := rps_one a
      cases d with
      | tup es =>
        obtain ⟨p, ys, rfl, hs, z, rs⟩ := a1.inv_tup
        exact callr_fz call_list_of pins s σ H _ us Qv I rv ⟨p, ys, rfl, .inr hs, fun l n => lqLst rm rs z n q.2 w⟩
      | lst es =>
        obtain ⟨p, ys, rfl, hs, z, rs⟩ := a1.inv_lst
        exact callr_fz call_list_of pins s σ H _ us Qv I rv ⟨p, ys, rfl, .inl (.inl hs), fun l n => lqLst rm rs z n q.2 w⟩
      | ref r =>
        obtain ⟨rfl, mo, hm⟩ := a1.inv_ref
        cases mo with
        | lst es =>
          simp only [bltR, seqOf, hm, res, Option.map_some] at q
          obtain ⟨ys, hx, rs⟩ := rm.getL hm
          obtain ⟨_, _, _, lE, z, _⟩ := rd_at I (.inl hx)
          exact callr_fz call_list_of pins s σ H _ us Qv I rv ⟨r, ys, rfl, .inl (.of hx), fun l n => lqLst rm rs (by rw [← rs.length]; exact z) n q.2 w⟩
        | dct _ => simp [bltR, seqOf, hm, res] at q
      | _ => exact q.elim
  | all =>
    match ds, a, q with
    | [.lst es], a, q =>
      obtain ⟨v, rfl, a1⟩ := rps_one a
      obtain ⟨p, ys, rfl, hs, z, rs⟩ := a1.inv_lst
      obtain ⟨bs, e, q⟩ := res_map (r := blsOf es) q
      have e2 := rps_bls rs e
      subst e2
      exact cr_all hc pins s σ H _ us Qv I rv ⟨p, bs, rfl, .inl hs, lq rm (.bl _) q.2 w⟩
  | any =>
    match ds, a, q with
    | [.lst es], a, q =>
      obtain ⟨v, rfl, a1⟩ := rps_one a
      obtain ⟨p, ys, rfl, hs, z, rs⟩ := a1.inv_lst
      obtain ⟨bs, e, q⟩ := res_map (r := blsOf es) q
      have e2 := rps_bls rs e
      subst e2
      exact cr_any hc pins s σ H _ us Qv I rv ⟨p, bs, rfl, .inl hs, lq rm (.bl _) q.2 w⟩
  | sum =>
    match ds, a, q with
    | [.lst es], a, q =>
      obtain ⟨v, rfl, a1⟩ := rps_one a
      obtain ⟨p, ys, rfl, hs, z, rs⟩ := a1.inv_lst
      obtain ⟨bs, e, q⟩ := res_map (r := intsOf es) q
      have e2 := rps_ints rs e
      subst e2
      exact cr_sum hc pins s σ H _ us Qv I rv ⟨p, bs, rfl, .inl hs, lq rm (.int _) q.2 w⟩
  | max =>
    match ds, a, q with
    | [.lst es], a, q =>
      obtain ⟨v, rfl, a1⟩ := rps_one a
      obtain ⟨p, ys, rfl, hs, z, rs⟩ := a1.inv_lst
      obtain ⟨ns, e, q⟩ := res_map (r := intsOf es) q
      have e2 := rps_ints rs e
      subst e2
      refine cr_max hc pins s σ H _ us Qv I rv ⟨p, ns, rfl, .inl hs, List.length_pos_iff.mpr q.1, fun m hm hle => ?_⟩
      obtain rfl : m = maxI ns := by
        obtain ⟨h1, h2⟩ := maxI_spec q.1
        exact Int.le_antisymm (h2 m hm) (hle _ h1)
      exact lq rm (.int _) q.2 w

/-! ### methods -/
/-- the receiver: a written list, a text -/
def mthTy : Mth → String
  | .append => "list"
  | .pop => "list"
  | .extend => "list"
  | .join => "str"
def mthId : Mth → String
  | .append => "list.append"
  | .pop => "list.pop"
  | .extend => "list.extend"
  | .join => "str.join"
def mthName : Mth → Str
  | .append => "append"
  | .pop => "pop"
  | .extend => "extend"
  | .join => "join"
theorem resM_map {α : Type} {r : Option α} {f : α → Prop × D × DM} {Q : QD} (h : resM (r.map f) Q) : ∃ k, r = some k ∧ (f k).1 ∧ Q (f k).2.1 (f k).2.2 := by
  cases r with
  | none => exact h.elim
  | some k => exact ⟨k, rfl, h⟩
theorem lst_at {M : DM} {a : Addr} {ds : List D} (h : lstAt M a = some ds) : M a = some (.lst ds) := by
  unfold lstAt at h
  split at h
  · rename_i e; cases h; exact e
  · cases h
theorem resM_pop {M : DM} {a : Addr} {Q : QD} (q : resM (mthR M .pop (.ref a) []) Q) : ∃ es d, M a = some (.lst es) ∧ es.getLast? = some d ∧ Q d (updM M a (.lst es.dropLast)) := by
  have q : resM ((lstAt M a).bind fun ds => ds.getLast?.map fun d => (True, d, updM M a (.lst ds.dropLast))) Q := q
  cases e : lstAt M a with
  | none => rw [e] at q; exact q.elim
  | some es =>
    rw [e] at q
    obtain ⟨d, hd, q⟩ := resM_map (r := es.getLast?) (f := fun d => (True, d, updM M a (.lst es.dropLast))) q
    exact ⟨es, d, lst_at e, hd, q.2⟩
theorem rcv_of {M : DM} {Q : QD} {m : Mth} {d : D} {ds : List D} (q : resM (mthR M m d ds) Q) : rcvOk M m d := by
  cases m with
  | append =>
    match d, ds, q with
    | .ref a, [x], q => obtain ⟨es, e, _⟩ := resM_map (r := lstAt M a) q; exact ⟨a, es, rfl, lst_at e⟩
  | pop =>
    match d, ds, q with
    | .ref a, [], q => obtain ⟨es, _, e, _⟩ := resM_pop q; exact ⟨a, es, rfl, e⟩
  | extend =>
    match d, ds, q with
    | .ref a, [.lst _], q => obtain ⟨es, e, _⟩ := resM_map (r := lstAt M a) q; exact ⟨a, es, rfl, lst_at e⟩
    | .ref a, [.tup _], q => obtain ⟨es, e, _⟩ := resM_map (r := lstAt M a) q; exact ⟨a, es, rfl, lst_at e⟩
  | join =>
    match d, ds, q with
    | .str s, [.lst _], q => exact ⟨s, rfl⟩
theorem join_ss (sep : List Nat) : ∀ ss : List (List Nat), mkS (joinD sep ss) = Str.join (mkS sep) (ss.map mkS)
  | [] => rfl
  | [x] => rfl
  | x :: y :: r => by
    show mkS (x ++ sep ++ joinD sep (y :: r)) = mkS x ++ mkS sep ++ Str.join (mkS sep) ((y :: r).map mkS)
    rw [← join_ss sep (y :: r), mkS_app, mkS_app]
theorem joinD_eq (sep : List Nat) (ss : List (List Nat)) : mkS (joinD sep ss) = Txt.join (mkS sep) (ss.map mkS) := by
  rw [join_ss]
  exact (PySem.StrLaws.glued_eq_join _ _).symm
theorem joinD_len (sep : List Nat) : ∀ ss : List (List Nat), ((ss.map mkS).map (·.length)).sum + (ss.map mkS).length * (mkS sep).length ≤ (joinD sep ss).length + sep.length
  | [] => by simp [joinD]
  | [x] => by simp [joinD, mkS_len]
  | x :: y :: r => by
    have ih := joinD_len sep (y :: r)
    show _ ≤ (x ++ sep ++ joinD sep (y :: r)).length + sep.length
    simp only [List.length_append, List.map_cons, List.sum_cons, List.length_cons, mkS_len, Nat.add_mul, Nat.one_mul] at ih ⊢
    omega
theorem joinD_mem {sep : List Nat} : ∀ {ss : List (List Nat)} {c : Nat}, c ∈ joinD sep ss → c ∈ sep ∨ ∃ l ∈ ss, c ∈ l
  | [], c, h => by cases h
  | [x], c, h => .inr ⟨x, by simp, h⟩
  | x :: y :: r, c, h => by
    have h : c ∈ x ++ sep ++ joinD sep (y :: r) := h
    rcases List.mem_append.mp h with h | h
    · rcases List.mem_append.mp h with h | h
      · exact .inr ⟨x, by simp, h⟩
      · exact .inl h
    · rcases joinD_mem h with h | ⟨l, hl, hc⟩
      · exact .inl h
      · exact .inr ⟨l, List.mem_cons_of_mem _ hl, hc⟩
theorem joinD_ok {sep : List Nat} (hs : okS sep) {ss : List (List Nat)} (h : ∀ l ∈ ss, okS l) (z : (joinD sep ss).length + sep.length ≤ sizeLine) : okS (joinD sep ss) :=
  ⟨by omega, fun c hc => (joinD_mem hc).elim (hs.c c) fun ⟨l, hl, hcl⟩ => (h l hl).c c hcl⟩
/-- what a tuple's object holds -/
theorem tup_read {pins : List (Addr × Obj)} {σ : L2.St} {H : Hp} {s : Shared} {a : Addr} {xs : List V} (I : Inv X pins σ H s) (h : SqT X.K H a xs) :
    ∃ (its : List Value) (o : Obj) (n : Nat), Vals xs its ∧ s.heap.get? a = some o ∧ o.cls = .type "tuple" ∧ o.data = .seq its.toArray n := by
  rcases h with h | ⟨o, its, n, hk, hc, hd, _, hv⟩
  · obtain ⟨_, its, hv, o, e, hc, n, hd⟩ := h.ok I.hok
    exact ⟨its, o, n, hv, e, hc, hd⟩
  · exact ⟨its.toList, o, n, hv, I.kIn a o hk, hc, by rw [hd]⟩
/-- list.extend by a tuple, whatever made it -/
theorem extend_tup (l : Addr) (its : Array Value) (n : Nat) (b : Addr) (o : Obj) (its2 : Array Value) (n2 : Nat) (hc : o.cls = .type "tuple") (hd : o.data = .seq its2 n2) (h0 : ¬(!its.isEmpty && Builtin.List.listTooLong (its.size + its2.size)) = true) (h1 : its.size ≤ sizeLine) (h2 : its.size + its2.size ≤ sizeLine + 1) :
    Meets (Builtin.«list.extend» ⟨[.ref l, .ref b], []⟩) (fun _ R s => s.heap.get? l = some { cls := .type "list", dict := none, data := .seq its n, slots := #[] } ∧ s.heap.get? b = some o ∧ R (.ok (.ret Value.none)) { s with heap := s.heap.update l (Obj.mapSeq fun x => x ++ its2), toks := s.toks }) :=
  .of_wp fun prog w A R s h => by
    obtain ⟨c, d, dat, sl⟩ := o
    cases hc
    cases hd
    obtain ⟨hp, g, d, tk, os⟩ := s
    obtain ⟨hl, hb, h⟩ := h
    have hz : (its ++ its2).size ≤ sizeLine + 1 := by rw [Array.size_append]; exact h2
    wp_walk using (PySem.wpAny_updateSeq hl rfl (hz := h1) (_hz' := hz)), AutoSeq1.wpAny_loadPart' hl, AutoSeq1.wpAny_loadPart' hb
    exact ⟨_, rfl, h⟩
theorem mth_any (m : Mth) : MtR X (mthId m) (fun x xs H Qv => ∃ M d ds Q, RM (gm X) H M ∧ Rp (gm X) H M x d ∧ Rps (gm X) H M xs ds ∧ resM (mthR M m d ds) Q ∧ ∀ v H', LQ (gm X) H M Q v H' → Qv v H') := by
  rintro pins s σ H x xs v us Qv I rx rv ⟨M, d, ds, Q, rm, a, as, q, w⟩
  cases m with
  | append =>
    match d, ds, a, as, q with
    | .ref p, [e], a, as, q =>
      obtain ⟨rfl, _⟩ := a.inv_ref
      obtain ⟨y, rfl, ay⟩ := rps_one as
      obtain ⟨es, hm, q⟩ := resM_map (r := lstAt M p) q
      replace hm := lst_at hm
      obtain ⟨ys, hx, rs⟩ := rm.getL hm
      refine mt_append pins s σ H _ _ v us Qv I rx rv ⟨p, ys, y, rfl, rfl, hx, by rw [rs.length]; exact q.1, w _ _ ⟨.non, _, Ext.setM rm hm, RM.setL rm hm (rs.append (.cons ay .nil)), .non, q.2⟩⟩
  | pop =>
    match d, ds, a, as, q with
    | .ref p, [], a, as, q =>
      obtain ⟨rfl, _⟩ := a.inv_ref
      obtain rfl := rps_nil as
      obtain ⟨es, e, hm, hl, q⟩ := resM_pop q
      obtain ⟨ys, hx, rs⟩ := rm.getL hm
      rw [List.getLast?_eq_getElem?] at hl
      obtain ⟨y, hy, ay⟩ := rs.get hl
      refine mt_pop pins s σ H _ _ v us Qv I rx rv ⟨p, ys, y, rfl, rfl, hx, by rw [rs.length]; exact hy, w _ _ ⟨e, _, Ext.setM rm hm, RM.setL rm hm rs.dropLast, ay.mono (Ext.setM rm hm).toExt0, q⟩⟩
  | extend =>
    match d, ds, a, as, q with
    | .ref p, [.lst fs], a, as, q =>
      obtain ⟨rfl, _⟩ := a.inv_ref
      obtain ⟨y, rfl, ay⟩ := rps_one as
      obtain ⟨b, zs, rfl, hb, z2, r2⟩ := ay.inv_lst
      obtain ⟨es, hm, q⟩ := resM_map (r := lstAt M p) q
      replace hm := lst_at hm
      obtain ⟨ys, hx, rs⟩ := rm.getL hm
      have w2 := w _ _ ⟨.non, _, Ext.setM rm hm, RM.setL rm hm (rs.append r2), .non, q.2⟩
      cases rx
      obtain ⟨u, rfl, ru⟩ := rv.one
      cases ru
      obtain ⟨i1, n1, r1, l1, _, e1⟩ := rd_at I (.inl hx)
      obtain ⟨i2, n2, r2', l2, _, e2⟩ := rd_at I hb
      have z := q.1
      have h1 := rs.length
      have h2 := r2.length
      have tot : i1.toArray.size + i2.toArray.size ≤ sizeLine := by simp only [List.size_toArray]; omega
      refine call_meets F.slot_list_extend ⟨_, e1, rfl⟩ F.entry_list_extend (F.args_list_extend_2 _ _)
        (AutoSeq1.list_extend_list_list_0 p i1.toArray n1 b i2.toArray n2 (by rw [notLongL tot, Bool.and_false]; exact Bool.false_ne_true) (by simp only [List.size_toArray]; omega) (by omega)) ⟨e1, e2, ?_⟩
      exact ⟨.non, _, I.lset (its' := i1 ++ i2) hx e1 (List.append_toArray _ _) (r1.append r2') (by rw [List.length_append]; omega), rfl, w2⟩
    | .ref p, [.tup fs], a, as, q =>
      obtain ⟨rfl, _⟩ := a.inv_ref
      obtain ⟨y, rfl, ay⟩ := rps_one as
      obtain ⟨b, zs, rfl, hb, z2, r2⟩ := ay.inv_tup
      obtain ⟨es, hm, q⟩ := resM_map (r := lstAt M p) q
      replace hm := lst_at hm
      obtain ⟨ys, hx, rs⟩ := rm.getL hm
      have w2 := w _ _ ⟨.non, _, Ext.setM rm hm, RM.setL rm hm (rs.append r2), .non, q.2⟩
      cases rx
      obtain ⟨u, rfl, ru⟩ := rv.one
      cases ru
      obtain ⟨i1, n1, r1, l1, _, e1⟩ := rd_at I (.inl hx)
      obtain ⟨i2, o2, n2, r2', e2, c2, d2⟩ := tup_read I hb
      have z := q.1
      have h1 := rs.length
      have h2 := r2.length
      have l2 := r2'.length
      have tot : i1.toArray.size + i2.toArray.size ≤ sizeLine := by simp only [List.size_toArray]; omega
      refine call_meets F.slot_list_extend ⟨_, e1, rfl⟩ F.entry_list_extend (F.args_list_extend_2 _ _)
        (extend_tup p i1.toArray n1 b o2 i2.toArray n2 c2 d2 (by rw [notLongL tot, Bool.and_false]; exact Bool.false_ne_true) (by simp only [List.size_toArray]; omega) (by omega)) ⟨e1, e2, ?_⟩
      exact ⟨.non, _, I.lset (its' := i1 ++ i2) hx e1 (List.append_toArray _ _) (r1.append r2') (by rw [List.length_append]; omega), rfl, w2⟩
  | join =>
    match d, ds, a, as, q with
    | .str sep, [.lst fs], a, as, q =>
      obtain ⟨rfl, z1⟩ := a.inv_str
      obtain ⟨y, rfl, ay⟩ := rps_one as
      obtain ⟨b, zs, rfl, hb, z2, r2⟩ := ay.inv_lst
      obtain ⟨ss, hs, q⟩ := resM_map (r := strsOf fs) q
      obtain ⟨e1, ok⟩ := rps_strs r2 hs
      have sl : sizeLine = 16777216 := sizeLine_eq
      refine mt_join pins s σ H _ _ v us Qv I rx rv ⟨_, b, ss.map mkS, rfl, rfl, .inl (.inl (by rw [List.map_map]; rw [e1] at hb; exact hb)), ?_, ?_⟩
      · have := joinD_len sep ss
        have := q.1
        omega
      · rw [← joinD_eq]
        exact lq rm (.str _ (joinD_ok z1 ok q.1)) q.2 w
end
end Dw
set_option Elab.async false
set_option linter.all false
set_option maxRecDepth 100000
set_option maxHeartbeats 4000000
/-! DwX1: an own exception class whose __init__(self, at) says super().__init__(at), then self.at = at: the def's promise. -/
namespace Dw
open PySem PySem.Spec PyProof.Rows L2 NdefX

/-- the body of such a def -/
def iniBody (p1 p2 p3 p4 p5 p6 p7 p8 p9 p10 : Pos) : List Stmt :=
  [.Expr (.Call (.Attribute (.Call (.Name "super" p1) [] [] p2) "__init__" p3) [.Name "at" p4] [] p5) p6, .Assign [.Attribute (.Name "self" p7) "at" p8] (.Name "at" p9) p10]
/-- what the written part says of the class at C and its def at f -/
structure IniOk (P : Program) (K : PySem.W.Frag) (mg : Str → Option Value) (C f : Addr) (F : NF) : Prop where
  oex : OexC K C
  lk : ∃ oc od doc pm ctv sl, K.lookup f = some ⟨oc, od, .func (F.fd doc pm ctv), sl⟩
  code : PySem.W.codeIn K (.ref F.c) F.qual = true
  cl : ∃ cc o, F.cl = [(("__class__" : Str), cc)] ∧ K.lookup cc = some o ∧ o.data = .cell (some (.ref C))
  file : ∃ oc vs file tf, K.lookup F.c = some oc ∧ oc.data = .fields vs ∧ vs[2]? = some (.str file tf) ∧ (P.main.file == file) = true
  top : (P.main.scope.names.lookup ("super" : Str)).isSome = false
  sup : PySem.W.ks_superIn K C C "__init__" = some (some (.builtin "ValueError.__init__"))
  sub : PySem.W.subIn K (.ref C) (.ref C) = some true
  ve : PySem.W.subIn K (.ref C) (.type "ValueError") = some true
  opq : PySem.W.nsIn K cStatics "thirdparty.any" = some none
  noat : PySem.W.findIn K (.ref C) "at" = some none
  body : ∃ p1 p2 p3 p4 p5 p6 p7 p8 p9 p10, (p3.endLine == p5.line) = true ∧ F.body = iniBody p1 p2 p3 p4 p5 p6 p7 p8 p9 p10
  sc : NScope ["self", "at", "__class__"] ["self", "at"] ["__class__"] F.scope
  ks : F.scope.names.lookup ("super" : Str) = some .globalImplicit
  par : ∃ ar, (F.params.posonlyargs ++ F.params.args).head? = some ar ∧ ar.arg = "self"
  mgs : mg "super" = none
/-- what the def promises: the exception at a gets its dict, with at -/
def spIni (C : Addr) : Sp := fun vs H Q _ => ∃ (a : Addr) (y : V), vs = [.ref a, y] ∧ H a = some (exo a C none) ∧ ∀ dx, H dx = none → dx ≠ a → Q .non (upd (upd H dx (exd dx [("at", y)])) a (exo a C (some dx)))
section
variable {P : Program} {w : World} {K : PySem.W.Frag} {mg : Str → Option Value} {base : Heap} {C f : Addr} {F : NF} {CX : CXT}
theorem look2 {X : Cx} {pins : List (Addr × Obj)} {σ : L2.St} {H : Hp} {s : Shared} {i : Nat} {x : Str} {v : V} {Q : Value → Shared → Prop} {E : Value → Shared → Prop} (I : Inv X pins σ H s) (hN : X.N[i]? = some x) (hv : Vis X.env.scope x) (e : σ[i]? = some (some v)) (hcd : (x == ("__classdict__" : Str)) = false)
    (h : ∀ u, RelV v u → Q u s) : wpAny (model X.prog X.w) X.A (loadName X.env x) Q E s := by
  obtain ⟨m, hn, hl⟩ := I.loc
  obtain ⟨u, r, l⟩ := hl i x v hN e hv
  rcases l with ⟨hk, hm⟩ | ⟨hk, c, hc, hcell⟩
  · exact wpAny_loadName_local I.ok.kind hk hn hm (h u r)
  · rcases hk with hk | hk
    · exact wpAny_loadName_cell I.ok.kind hk hc hcell (h u r)
    · exact wpAny_loadName_free I.ok.kind hk hc hcell (h u r) hcd
theorem load_super {X : Cx} {pins : List (Addr × Obj)} {σ : L2.St} {H : Hp} {s : Shared} {Q : Value → Shared → Prop} {E : Value → Shared → Prop} (I : Inv X pins σ H s) (hg : X.env.kindOf "super" = some .globalImplicit) (hm : X.mg "super" = none) (h : Q (.type "super") s) :
    wpAny (model X.prog X.w) X.A (loadName X.env "super") Q E s := by
  obtain ⟨mb, h1, h2⟩ := I.mod.blt
  have hk := I.ok.kind
  have base : wpAny (model X.prog X.w) X.A (loadGlobal X.env "super") Q E s :=
    Calls.loadGlobal_builtin (by rw [I.ok.glob]; exact I.mod.glob.keeps I.bk) hm (by rw [I.ok.blt]; exact h1.keeps I.bk) ((h2 "super" (by decide)).trans (by decide +kernel)) h
  unfold loadName
  simp only [Env.blockKind, hk, hg, ScopeKind.isAnnotationScope, Bool.false_and, Bool.false_eq_true, if_false]
  exact base
/-- the bound __init__ of ValueError is called -/
theorem bound_init {X : Cx} {pins : List (Addr × Obj)} {σ : L2.St} {H : Hp} {s : Shared} {a v : Addr} {u : Value} {Q : Value → Shared → Prop} {E : Value → Shared → Prop} (T : OexC X.K C) (I : Inv X pins σ H s) (ea : H a = some (exo a C none))
    (hv : s.heap.get? v = some (PySem.W.kxs_mw "ValueError.__init__" a)) (hQ : ∀ s', Inv X pins σ H s' → Q .none s') : wpAny (model X.prog X.w) X.A (call (.ref v) [u]) Q E s := by
  obtain ⟨nm, q, N, bs, bm, sn, sub, ab, col, dd, k0, k1, k2, k3, k5, hC, hbm⟩ := T.cls
  have hC' := I.kIn _ _ hC
  obtain ⟨t1, ho⟩ := exo_at I.hok ea
  obtain ⟨hp, g, dr, tk, os⟩ := s
  have FB := PySem.F.excBase_ValueError
  refine wpAny_call (codeAny_of_tree ?_)
  show wpAny _ (Around.in1 X.A) (callAny (.ref v) ⟨[u], []⟩) _ _ _
  unfold callAny
  refine wpAny_bind (wpAny_load hv ?_)
  have c1 : (Value.type "method-wrapper" == Value.type "method" || Value.type "method-wrapper" == Value.type "builtin_function_or_method" || Value.type "method-wrapper" == Value.type "method-wrapper") = true := by decide
  simp only [PySem.W.kxs_mw, c1, if_true]
  refine PySem.W.KFB.if_so (by decide) ?_
  refine wpAny_bind (PySem.W.check_bound_init FB.toExcCallFacts hC' ho rfl (wpAny_bind (wpAny_pure (wpAny_pure ?_))))
  refine ⟨plainId_quiet FB.init.plain _, codeAny_builtin FB.initEntry (PySem.W.exc_init_tree (cls := .ref C) (t0 := t1) (dv := none) (c2 := .none) (c3 := .none) (b4 := .bool false) ho (by rw [sizeLine_eq]; show 1 ≤ 16777216; decide) fun h' k hx _ => ?_)⟩
  have J := I.write (t' := tk) (x := a) (e := a) (o := exo a C none) (by rw [ea]; exact True.intro) (.inl rfl) k ⟨_, hx⟩ (exo_ok hx)
  have same : upd H a (exo a C none) = H := by
    funext b
    unfold upd
    split
    · rename_i e; rw [e, ea]
    · rfl
  rw [same] at J
  exact hQ _ J
/-- super().__init__(at) within the def -/
theorem ini_super {X : Cx} {pins : List (Addr × Obj)} {σ : L2.St} {H : Hp} {s : Shared} {a : Addr} {y : V} {p1 p2 p3 p4 p5 : Pos} {body : List Stmt} {Q : Value → Shared → Prop} (T : IniOk X.prog X.K X.mg C f F) (hline : (p3.endLine == p5.line) = true) (hN : X.N = (["self", "at", "__class__"] : List Str)) (hsc : X.env.scope = F.scope) (hfu : X.env.func = some f) (hcd : X.env.code = .ref F.c)
    (I : Inv X pins σ H s) (h0 : σ[0]? = some (some (.ref a))) (h1 : σ[1]? = some (some y)) (h2 : σ[2]? = some (some (.ref C))) (ea : H a = some (exo a C none)) (hQ : ∀ s', Inv X pins σ H s' → Q .none s') :
    PySem.wpAt (model X.prog X.w) X.A (.func body X.env) (eval (.Call (.Attribute (.Call (.Name "super" p1) [] [] p2) "__init__" p3) [.Name "at" p4] [] p5) X.env) Q X.xe s := by
  have KX := I.kIn
  obtain ⟨oc, od, doc, pm, ctv, sl, hlk⟩ := T.lk
  obtain ⟨cc, oo, hcl, hco, hcell⟩ := T.cl
  obtain ⟨occ, vs, file, tf, hfc, hfd, hfv, hfile⟩ := T.file
  obtain ⟨ar, har, harg⟩ := T.par
  have vis : ∀ x, (x = "self" ∨ x = "at" → Vis X.env.scope x) := fun x hx => .inl (by rw [hsc]; exact T.sc.par x (by rcases hx with h | h <;> rw [h] <;> simp))
  have visC : Vis X.env.scope "__class__" := .inr (.inr (by rw [hsc]; exact T.sc.frk _ (by simp)))
  have hpos : ∀ o : Expr, methodCallPos true o X.env p3 p5 = pure p5 := fun o => by unfold methodCallPos; simp [hline]
  refine PySem.ks_wpAt_MethodCall (pl := (do return (← importBound (.Call (.Name "super" p1) [] [] p2) X.env).getD true)) ?_ ?_
  rotate_left
  · rw [arm_eval_Call]
    unfold methodCall
    have hform : methodCallForm (([.Name "at" p4] : List Expr).length + ([] : List Keyword).length) (backTo p5 (starEach [.Name "at" p4] X.env)) (backToKw p5 (keywordEach [] X.env)) = true := rfl
    rw [hform]
    simp only [hpos, pure_bind]
    rfl
  refine PySem.ks_wpAt_super_base (by show X.env.scope.names.lookup _ = _; rw [hsc]; exact T.ks) (by show X.env.scope.names.lookup _ = _; rw [hsc]; exact T.sc.frk _ (by simp)) rfl hfu (KX _ _ hlk) rfl har hcd (KX _ _ hfc) hfd hfv hfile T.top ?_
  refine load_super I (by show X.env.scope.names.lookup _ = _; rw [hsc]; exact T.ks) T.mgs ⟨rfl, ?_⟩
  refine look2 (i := 2) I (by rw [hN]; rfl) visC h2 rfl fun u r => ?_
  cases r
  rw [harg]
  refine look2 (i := 0) I (by rw [hN]; rfl) (vis _ (.inl rfl)) h0 rfl fun u r => ?_
  cases r
  obtain ⟨nm, q, N, bs, bm, sn, sub, ab, col, dd, k0, k1, k2, k3, k5, hC, hbm⟩ := T.oex.cls
  have hC' := KX _ _ hC
  obtain ⟨t1, ho⟩ := exo_at I.hok ea
  have hT : ∀ Y : String, bm.contains (.type Y) = _ := fun Y => PySem.HandSPX.refsVE_contains Y bm hbm
  have hclsC : PySem.W.clsIn X.K C = some { name := nm, bases := bs, mro := .ref C :: bm, ns := N, qualname := q, hasDict := true, slotNames := sn, subclasses := sub, abstract := ab, collection := col, hasDel := false } := by unfold PySem.W.clsIn; rw [hC] <;> rfl
  obtain ⟨hp, g, dr, tk, os⟩ := s
  refine PySem.ks_wpAny_isType_cls hC' rfl ⟨rfl, ?_⟩
  refine PySem.ks_wpAny_call_super hC' rfl ho rfl (fun _ z => by cases z) (PySem.W.looks_subIn KX T.sub) fun h' hso k => ?_
  have I1 : Inv X pins σ H ⟨h', g, dr, tk, os⟩ := I.kept (t' := tk) k
  have inst : PySem.W.InstAt h' a ({ cls := .ref C, dict := none, data := .fields #[.ref t1, .none, .none, .none, .bool false, .none] } : Obj) C none := ⟨k _ _ ho, rfl, rfl, trivial⟩
  have hs := T.sup
  unfold PySem.W.ks_superIn at hs
  rw [hclsC] at hs
  refine PySem.W.kxs_getMethod PySem.W.kxs_ValueError hso (PySem.W.looks_opaque I1.kIn T.opq) (l₀ := .ref C :: bm) ?_ rfl I1.kIn hs (inst.type.andThen (PySem.W.looks_subIn I1.kIn T.ve)) (PySem.W.ks_ne I1.kIn inst hclsC) rfl ?_
  · intro A Q E s k q
    exact wpAny_bind ((PySem.W.looks_clsIn I1.kIn hclsC) A _ E s k (wpAny_pure q))
  have hu : (h'.push (PySem.W.kxs_mw "ValueError.__init__" a)).get? h'.objs.size = some (PySem.W.kxs_mw "ValueError.__init__" a) := Heap.get?_push_size _ rfl
  have k2 : ∀ b o, h'.get? b = some o → (h'.push (PySem.W.kxs_mw "ValueError.__init__" a)).get? b = some o := fun b o e => Heap.get?_push_of_some _ e
  have I2 : Inv X pins σ H ⟨h'.push (PySem.W.kxs_mw "ValueError.__init__" a), g, dr, tk + 1, os⟩ := I1.kept (t' := tk + 1) k2
  refine PySem.W.kxs_callWith (i := "ValueError.__init__") (x := a) rfl ?_
  refine Calls.evalArgs_plain (Calls.spliced_cons (wpAny_Name (look2 (i := 1) I2 (by rw [hN]; rfl) (vis _ (.inr rfl)) h1 rfl fun u r => Calls.spliced_nil ⟨hu, ?_⟩) (by decide)))
  obtain ⟨t2, ho2⟩ := exo_at I2.hok ea
  exact bound_init T.oex I2 ea hu hQ
/-- THE DEF: it keeps its promise -/
theorem ini_fn {k : Nat} {oc : Value} {od : Option Addr} {doc pm ctv : Value} {sl : Array (Option Value)} (T : IniOk P K mg C f F) (hlk : K.lookup f = some ⟨oc, od, .func (F.fd doc pm ctv), sl⟩) :
    FnOk P w K mg base CX (k + 1) f (F.fd doc pm ctv) (["self", "at"] : List Str) (spIni C) := by
  refine ⟨fun vs H Q E h => ?_, fun A outer s H args us vs Q E hr e0 hb r hsp => ?_⟩
  · obtain ⟨a, y, rfl, _⟩ := h
    rfl
  · obtain ⟨a, y, rfl, ea, q⟩ := hsp
    have S := T.sc
    have KX : K.In s.heap := e0.mod.kin.keeps fun b o e => (e0.bs b o e).1
    have lim : s.heap.NoLimit := e0.mod.nolimit.keeps fun b o e => (e0.bs b o e).1
    obtain ⟨cc, oo, hcl, hco, hcell⟩ := T.cl
    obtain ⟨p1, p2, p3, p4, p5, p6, p7, p8, p9, p10, hline, hbody⟩ := T.body
    have cells : CellsAt F.cl (["__class__"] : List Str) [some (.ref C)] s.heap H := by
      have only : ∀ (z : Str) (c : Addr), F.cl.lookup z = some c → z = ("__class__" : Str) ∧ c = cc := fun z c e => by
        rw [hcl] at e
        unfold List.lookup at e
        split at e
        · rename_i h
          cases e
          exact ⟨eq_of_beq h, rfl⟩
        · cases e
      have at_ : s.heap.IsCell cc (some (.ref C)) := ⟨oo, KX _ _ hco, hcell⟩
      refine ⟨rfl, fun z c e => ?_, fun x z c e1 e2 => by rw [(only _ _ e1).1, (only _ _ e2).1], fun i z e => ?_⟩
      · obtain ⟨_, rfl⟩ := only z c e
        exact ⟨(e0.bs _ _ (e0.mod.kin _ _ hco)).2, _, at_⟩
      · cases i with
        | zero =>
          cases e
          exact ⟨cc, by rw [hcl]; rfl, fun v hv => by cases hv; exact ⟨.ref C, rfl, at_⟩⟩
        | succ i => cases e
    refine PySem.ks_codeAny_call_defAt (body := F.body) hr.depth (KX _ _ hlk) rfl lim (PySem.W.codeRec_of KX T.code) rfl hb S.nocell (fun x hx => ?_) (fun h₁ hns kp => ?_) S.co S.gen S.kind
    · have hm := (List.of_mem_zip (show (x.1, x.2) ∈ (["self", "at"] : List Str).zip us from hx)).1
      exact S.par _ hm
    · have I : Inv (ncx CX P w K mg base (["self", "at", "__class__"] : List Str) F f A outer s H E) [] (startF (["self", "at", "__class__"] : List Str) [.ref a, y] [some (.ref C)]) H { s with heap := h₁, toks := s.toks + ((["self", "at"] : List Str).zip us).length } := inv_startN S hr.hd e0 rfl r cells hns kp
      rw [hbody]
      have vis : ∀ x : Str, (x = "self" ∨ x = "at") → Vis (ncx CX P w K mg base (["self", "at", "__class__"] : List Str) F f A outer s H E).env.scope x := fun x hx => .inl (S.par x (by rcases hx with h | h <;> rw [h] <;> simp))
      show PySem.wpAt (model P w) (ncx CX P w K mg base (["self", "at", "__class__"] : List Str) F f A outer s H E).A (.func (iniBody p1 p2 p3 p4 p5 p6 p7 p8 p9 p10) (ncx CX P w K mg base (["self", "at", "__class__"] : List Str) F f A outer s H E).env)
        (execs (iniBody p1 p2 p3 p4 p5 p6 p7 p8 p9 p10) (ncx CX P w K mg base (["self", "at", "__class__"] : List Str) F f A outer s H E).env) _ (ncx CX P w K mg base (["self", "at", "__class__"] : List Str) F f A outer s H E).xe _
      refine PySem.ks_wpAt_execs_cons (PySem.ks_wpAt_Expr_any (ini_super (X := ncx CX P w K mg base (["self", "at", "__class__"] : List Str) F f A outer s H E) T hline rfl rfl rfl rfl I rfl rfl rfl ea fun s2 I2 => ?_) I.quiet rfl)
      refine PySem.ks_wpAt_execs_cons (PySem.ks_wpAt_Assign_Attr (wpAt_of_wpAny ?_) rfl)
      refine wpAny_Name (look2 (i := 1) I2 rfl (vis _ (.inr rfl)) rfl rfl fun u2 r2 => ?_) (by decide)
      refine wpAny_Name (look2 (i := 0) I2 rfl (vis _ (.inl rfl)) rfl rfl fun u3 r3 => ?_) (by decide)
      cases r3
      refine ost_new T.oex I2 ea T.noat r2 fun dx s3 nd da I3 => ?_
      refine wpAt_of_wpAny (wpAny_pure ?_)
      exact ⟨.non, _, I3.os, I3.bare, I3.base, I3.hok, rfl, q dx nd da⟩
end
end Dw
set_option Elab.async false
set_option linter.all false
set_option maxRecDepth 100000
set_option maxHeartbeats 4000000
/-! DwX2: several clauses 'except x as n' (the rule of HandS.TryMany with names, after HandS.Exc's rule of one such clause). -/
namespace Dw
open PySem PySem.Spec PyProof.Rows L2

/-- a clause: the class, the name's slot, what its suite does -/
structure Cl where
  c : Value
  i : Nat
  ts : Addr → Value → Option Addr → TS
def offD (i : Nat) (D : Ends) : Ends := { nx := fun σ H => D.nx (σ.set i none) H, rt := D.rt, bk := fun σ H => D.bk (σ.set i none) H, ct := fun σ H => D.ct (σ.set i none) H }
def wCls (K : PySem.W.Frag) (m : Nat) (Wo : WX) (D : Ends) : List Cl → WX
  | [] => Wo
  | z :: zs => fun cls d σ H => ∃ b, PySem.W.exmOne K cls z.c = some b ∧ (b = true → ∀ a, H a = none → σ.length = m → z.ts a cls d (offD z.i D) (σ.set z.i (some (.ref a))) H) ∧ (b = false → wCls K m Wo D zs cls d σ H)
inductive ClsOk (X : Cx) : List ExceptHandler → List Cl → Prop where
  | nil : ClsOk X [] []
  | cons {x n : Str} {z : Cl} {st : Stmt} {su : List Stmt} {p1 p2 : Pos} {hs : List ExceptHandler} {zs : List Cl} (hi : X.N[z.i]? = some n) (hl : X.env.kindOf n = some .local) (hc : Names X x z.c)
      (hsu : ∀ (a : Addr) (o : Obj) (cls : Value) (d : Option Addr) (pn : List (Addr × Obj)), Zc cls d o → (∃ vs, o.data = .fields vs) → PSs (X.suite a ((a, o) :: pn)) (st :: su) (z.ts a cls d)) (r : ClsOk X hs zs) :
      ClsOk X (.ExceptHandler (some (.Name x p1)) (some n) (st :: su) p2 :: hs) (z :: zs)
section
variable {X : Cx} {body : List Stmt} {hd : ExceptHandler} {hds : List ExceptHandler} {zs : List Cl} {pos : Pos} {tb : WX → TS} {Wo : WX}
theorem ps_try_cls (hst : X.stack = X.env :: X.outer) (hfr : X.env.frame = some X.env.locals) (hN : X.N.Nodup) (tk : Takes X Wo)
    (hb : ∀ (V : WX) (pn : List (Addr × Obj)) (xe : Value → Shared → Prop), Takes (X.tr pn xe) V → PassesOwn (model X.prog X.w) X.A X.env xe → PSs (X.tr pn xe) body (tb V))
    (hh : ClsOk X (hd :: hds) zs) : PS X (.Try body (hd :: hds) [] [] pos) (fun D σ H => tb (wCls X.K X.N.length Wo D zs) D σ H) := by
  refine ⟨fun pins s σ H D I wish => ?_⟩
  have xok := I.ok
  have frm : X.A.frames = some (X.env :: X.outer) := by rw [xok.frames, hst]
  refine wpAny_Try_except ?_
  let xe' : Value → Shared → Prop := fun e s₁ => wpAny (model X.prog X.w) X.A (noteFrame e X.env) (fun _ s₂ => wpAny (model X.prog X.w) X.A (setFlight e none)
    (fun _ s₃ => wpAny (model X.prog X.w) X.A (handleBy e X.env (hd :: hds)) (SP X pins D) X.xe s₃) X.xe s₂) X.xe s₁
  have T' : Takes (X.tr (X.pn ++ pins) xe') (wCls X.K X.N.length Wo D zs) := by
    rintro u s' ⟨a, B, sI, pins', σ', H', cls, d, rfl, I0, nb, up, sky, na, os, ag, w⟩
    have I1 : Inv X pins σ' H' sI := I0.ofTry xok
    have sky1 : Sky B (X.env :: X.outer) a (Zc cls d) X.env.locals s'.heap := by rw [← hst]; exact sky
    refine Sky.land Zc.steady frm hfr sky1 fun g3 fly upg => ?_
    have I3 : Inv X pins σ' H' { s' with heap := g3 } := I1.landed nb fly.1 (up.trans upg) os ag
    obtain ⟨o3, v3, get3, z3, dat3⟩ := fly.there
    have apart : a ∉ frs (X.env :: X.outer) := fun hm => by
      obtain ⟨_, o', e', no⟩ := fly.2.2.1.mem hm
      rw [get3] at e'
      cases e'
      exact no _ dat3
    have neL : a ≠ X.env.locals := fun q => apart (List.mem_filterMap.mpr ⟨X.env, List.mem_cons_self, by rw [hfr, q]⟩)
    have neF : a ∉ X.fs := fun hm => by
      obtain ⟨e, me, q⟩ := List.mem_filterMap.mp hm
      exact apart (List.mem_filterMap.mpr ⟨e, List.mem_cons_of_mem _ me, q⟩)
    have U3 := I3.suite get3 dat3 na neL neF
    have walk : ∀ {hs : List ExceptHandler} {cs : List Cl}, ClsOk X hs cs → wCls X.K X.N.length Wo D cs cls d σ' H' → wpAny (model X.prog X.w) X.A (handleBy (.ref a) X.env hs) (SP X pins D) X.xe { s' with heap := g3 } := by
      intro hs cs good
      induction good with
      | nil =>
        intro w
        refine wpAny_handleBy_nil ?_
        obtain ⟨_, _, _, oe, vs, tb1, _, _, get4, _, dat4, f1, _⟩ := id fly
        have fin : wpAny (model X.prog X.w) X.A (setFlight (.ref a) X.env.frame) (fun _ s4 => wpAny (model X.prog X.w) X.A (throw (.ref a) : Sem Flow) (SP X pins D) X.xe s4) X.xe { s' with heap := g3 } := by
          rw [hfr]
          refine HandSPX.setFlight_upZ fly fun g4 held up4 => wpAny_throw (tk _ _ ?_)
          exact ⟨a, B, sI, pins, σ', H', cls, d, rfl, I1, nb, (up.trans upg).trans up4, .inr (.inr (by rw [hst]; exact held)), na, os, ag, w⟩
        unfold PySem.passOn
        refine wpAny_bind (wpAny_field get4 dat4 f1 ?_)
        rw [if_neg (by simp : ¬ ((Value.ref tb1 == Value.none) = true))]
        first
          | exact wpAny_bind (wpAny_pure (wpAny_bind fin))
          | exact wpAny_bind fin
      | @cons x n z st su p1 p2 hs2 zs2 hi hl hc hsu r ih =>
        intro w
        obtain ⟨b, test, yes, no⟩ := w
        refine wpAny_handleBy_cons (codeAny_handlers_test ?_) (by intro q; cases q)
        have typ : PySem.W.Looks (model X.prog X.w) g3 (typeOf (.ref a)) cls := fun A Q E s k q => wpAny_typeOf_ref (k _ _ get3) (by rw [z3.1]; exact q)
        have look := PySem.W.exm_one (M := model X.prog X.w) I3.kIn typ test
        have named : ∀ {Q : Value → Shared → Prop} {E : Value → Shared → Prop}, Q z.c { s' with heap := g3 } → wpAny (model X.prog X.w) (X.A.mark (some (.ref a))) (eval (.Name x p1) X.env) Q E { s' with heap := g3 } := fun {Q E} q => by
          obtain ⟨hg, nd, hm | ⟨hm, hv, nn⟩⟩ := hc
          · exact ld_glob (X := X.suite a ((a, o3) :: (X.pn ++ pins))) U3 hg hm q nd
          · exact ld_blt (X := X.suite a ((a, o3) :: (X.pn ++ pins))) U3 hg hm hv q nn nd
        refine named (look.here ?_)
        cases b with
        | false => exact ih (no rfl)
        | true =>
          refine codeAny_handlers_suite_as ?_
          refine HandSPX.lands_againZ fly fun g4 fly4 up4 => ?_
          have I4 : Inv X pins σ' H' { s' with heap := g4 } := I1.landed nb fly4.1 ((up.trans upg).trans up4) os ag
          obtain ⟨o4, v4, get4, z4, dat4⟩ := fly4.there
          refine store_ok (X := X.suite a ((a, o4) :: (X.pn ++ pins))) (v := .ref a) (I4.suite get4 dat4 na neL neF) hN hi (.inl hl) rfl (fun s5 U5 => ?_) (.inr hl)
          refine wpAny_mono ((hsu a o4 cls d (X.pn ++ pins) z4 ⟨_, dat4⟩).run [] s5 _ H' _ U5 (yes rfl a na I1.len)) (fun f s6 out => ?_) (fun _ _ q => q.elim)
          have gone : ∀ {σ6 : L2.St} {H6 : Hp} {Q : Shared → Prop}, Inv (X.suite a ((a, o4) :: (X.pn ++ pins))) [] σ6 H6 s6 → (∀ s7, Inv X pins (σ6.set z.i none) H6 s7 → Q s7) →
              wpAny (model X.prog X.w) X.A (do bindName X.env n .none; unbindBehindTheSuite X.env n p2) (fun _ s7 => Q s7) X.xe s6 := fun {σ6 H6 Q} U6 hq => gone_ok (U6.unsuite xok) hN hi hl hq
          cases f with
          | ret u =>
            obtain ⟨v6, σ6, H6, U6, r6, q6⟩ := out
            exact gone U6 fun s7 I7 => ⟨_, _, _, I7, r6, q6⟩
          | next =>
            obtain ⟨σ6, H6, U6, q6⟩ := out
            exact gone U6 fun s7 I7 => ⟨_, _, I7, q6⟩
          | brk =>
            obtain ⟨σ6, H6, U6, q6⟩ := out
            exact gone U6 fun s7 I7 => ⟨_, _, I7, q6⟩
          | cont =>
            obtain ⟨σ6, H6, U6, q6⟩ := out
            exact gone U6 fun s7 I7 => ⟨_, _, I7, q6⟩
    exact walk hh w
  refine wpAny_mono ((hb (wCls X.K X.N.length Wo D zs) (X.pn ++ pins) xe' T' PassesOwn.looking).run [] s σ H D (I.toTry _) wish) (fun f s1 out => ?_) (fun e s1 he => he)
  cases f with
  | ret u =>
    obtain ⟨v, σ', H', I', r, q⟩ := out
    exact ⟨v, σ', H', I'.ofTry xok, r, q⟩
  | next =>
    obtain ⟨σ', H', I', q⟩ := out
    exact wpAny_execs_nil ⟨σ', H', I'.ofTry xok, q⟩
  | brk =>
    obtain ⟨σ', H', I', q⟩ := out
    exact ⟨σ', H', I'.ofTry xok, q⟩
  | cont =>
    obtain ⟨σ', H', I', q⟩ := out
    exact ⟨σ', H', I'.ofTry xok, q⟩
end
end Dw
set_option Elab.async false
set_option linter.all false
set_option maxRecDepth 100000
set_option maxHeartbeats 4000000
/-! Dw6: what of an expression's form the rules ask, by a look; judgements over data for expressions. -/
namespace Dw
open PySem PySem.Spec PyProof.Rows L2

def notStar : Expr → Bool
  | .Starred .. => false
  | _ => true
theorem star_cons {e : Expr} {es : List Expr} {env : Env} (h : notStar e = true) : starEach (e :: es) env = (false, eval e env) :: starEach es env := by
  cases e <;> first
    | rfl
    | cases h
theorem star_plain {env : Env} {pos : Pos} : ∀ {es : List Expr}, es.all notStar = true → (backTo pos (starEach es env)).any (·.1) = false
  | [], _ => rfl
  | e :: es, h => by
    obtain ⟨h1, h2⟩ := Bool.and_eq_true_iff.mp (show (notStar e && es.all notStar) = true from h)
    rw [star_cons h1]
    exact star_plain h2
def notSlice : Expr → Bool
  | .Slice .. => false
  | _ => true
theorem plain_ix {e : Expr} (h : notSlice e = true) : PlainIx e := by
  intro o i
  cases e <;> first
    | rfl
    | cases h
/-- a test is its value's truth -/
def plainTest : Expr → Bool
  | .UnaryOp .Not _ _ => false
  | .BoolOp .. => false
  | .IfExp .. => false
  | .Compare .. => false
  | _ => true
theorem plain_test {e : Expr} {env : Env} (h : plainTest e = true) (whole : Sem Value) : isTrue e env whole = (do let v ← whole; standAt e.pos; holding [v] (truthy v)) := by
  cases e <;> first
    | rfl
    | cases h
    | (rename_i op _ _; cases op <;> first | rfl | cases h)
def notComp : Expr → Bool
  | .ListComp .. => false
  | .SetComp .. => false
  | .DictComp .. => false
  | _ => true
theorem no_swap {e : Expr} {t : Option Expr} {l : Nat} {env : Env} (h : notComp e = true) : swapsWith e t l env = pure false := by
  cases e <;> first
    | rfl
    | cases h
def notSet : Expr → Bool
  | .Set .. => false
  | _ => true
theorem no_marks {op : CmpOp} {e : Expr} (h : notSet e = true) : behindInMarks op e = false := by
  cases e <;> first
    | rfl
    | cases h
theorem no_fold {e : Expr} {env : Env} (h : notSet e = true) (x : Value) : foldedSetIterable e env x = pure x := by
  cases e <;> first
    | rfl
    | cases h
/-- no call without arguments: not super() -/
def notSuper : Expr → Bool
  | .Call _ [] [] _ => false
  | _ => true
theorem no_super {e : Expr} {attr : Str} {env : Env} {w : Sem Value} (h : notSuper e = true) : attributeBase e attr env w = w := by
  cases e <;> first
    | rfl
    | skip
  rename_i f as ks pos
  cases as with
  | nil =>
    cases ks with
    | nil => cases h
    | cons k ks => cases f <;> rfl
  | cons a as => cases f <;> rfl

/-- what is known of a body, written down -/
structure Sc where
  N : List Str
  sc : Scope
  fnS : Str → Bool
  defs : List (Str × List Str × List Nat)
  con : List (Str × D)
  blts : List Str
  excs : List Str
  exm : List (Str × Str × Bool)
  top : Bool
  act : Option Str
  hds : List Nat
def kindIs (c : Sc) (x : Str) (k : NameKind) : Bool := c.sc.names.lookup x == some k
def visB (c : Sc) (x : Str) : Bool := kindIs c x .local || kindIs c x .cell || kindIs c x .free
def locB (c : Sc) (x : Str) : Bool := kindIs c x .local || kindIs c x .cell
def slotB (c : Sc) (i : Nat) (x : Str) : Bool := c.N[i]? == some x
def plainName (x : Str) : Bool := x != "__debug__" && x != "__classdict__" && x != "__name__"
def glB (c : Sc) (x : Str) : Bool := kindIs c x .globalImplicit && plainName x
theorem kind_of {c : Sc} {x : Str} {k : NameKind} (h : kindIs c x k = true) : c.sc.names.lookup x = some k := by
  unfold kindIs at h
  exact eq_of_beq h
theorem slot_of {c : Sc} {i : Nat} {x : Str} (h : slotB c i x = true) : c.N[i]? = some x := eq_of_beq h
theorem plain_of {x : Str} (h : plainName x = true) : (x == ("__debug__" : Str)) = false ∧ (x == ("__classdict__" : Str)) = false ∧ x ≠ "__name__" := by
  unfold plainName at h
  simp only [Bool.and_eq_true, bne_iff_ne, ne_eq] at h
  exact ⟨beq_eq_false_iff_ne.mpr h.1.1, beq_eq_false_iff_ne.mpr h.1.2, h.2⟩

/-- the promise of a def over data -/
def spD (G : Gm) (C : List D → DM → QX → QD → Prop) : Sp := fun vs H Q E => ∃ M ds Qd Qx, RM G H M ∧ Rps G H M vs ds ∧ C ds M Qx Qd ∧ (∀ v H', LQ G H M Qd v H' → Q v H') ∧ (∀ c d H', LX G H M Qx c d H' → E c d H')
/-- a def as it may be called: ps its parameters, js: how many stand ahead of the keywords -/
structure DefOk (X : Cx) (k : Nat) (C : List D → DM → QX → QD → Prop) (x : Str) (ps : List Str) (js : List Nat) (f : Addr) (fd : FuncData) : Prop where
  mg : X.mg x = some (.ref f)
  keep : PySem.W.keepIn X.K (.ref f) = true
  binds : Binds X.K fd ps []
  kws : ∀ j ∈ js, ∀ us ws : List Value, us.length = j → us.length + ws.length = ps.length → bindArgs fd ⟨us, (ps.drop j).zip ws⟩ = pure (ps.zip (us ++ ws))
  fn : FnOk X.prog X.w X.K X.mg X.base (L2.CX X.prog X.w) k f fd ps (spD (gm X) C)
def CallOk (X : Cx) (k : Nat) (C : List D → DM → QX → QD → Prop) (q : Str × List Str × List Nat) : Prop := ∃ (f : Addr) (fd : FuncData), DefOk X k C q.1 q.2.1 q.2.2 f fd

/-- an own exception class of the name x -/
def ExcOk (P : Program) (K : PySem.W.Frag) (mg : Str → Option Value) (x : Str) : Prop := ∃ (C f : Addr) (F : NdefX.NF) (oc : Value) (od : Option Addr) (doc pm ctv : Value) (sl : Array (Option Value)), mg x = some (.ref C) ∧ IniOk P K mg C f F ∧ K.lookup f = some ⟨oc, od, .func (F.fd doc pm ctv), sl⟩ ∧
  PySem.W.findIn K (.ref C) "__init__" = some (some (.ref f)) ∧ PySem.W.typeIn K (.ref f) = some (.type "function") ∧ (∀ us : List Value, us.length = 2 → bindArgs (F.fd doc pm ctv) ⟨us, []⟩ = pure ((["self", "at"] : List Str).zip us)) ∧ XfC K C
/-- a def x that calls the lambda that it gets -/
def HdOk (P : Program) (w : World) (K : PySem.W.Frag) (mg : Str → Option Value) (base : Heap) (k : Nat) (CL : (DM → QX → QD → Prop) → DM → QX → QD → Prop) (x : Str) : Prop :=
  ∃ (g : Addr) (Ng : List Str) (a : Str) (pg : Arguments) (bg : List Stmt) (sg : Scope) (dV kV doc pm cdv ct oc : Value) (an od : Option Addr) (osl : Array (Option Value)), mg x = some (.ref g) ∧ PySem.W.keepIn K (.ref g) = true ∧
    K.lookup g = some ⟨oc, od, .func (PySem.W.fnOf x x pg bg sg dV kV doc pm an cdv ct), osl⟩ ∧ PySem.W.codeIn K cdv x = true ∧ Binds K (PySem.W.fnOf x x pg bg sg dV kV doc pm an cdv ct) [a] [] ∧ FnScope Ng [a] sg ∧ Ng[0]? = some a ∧ Vis sg a ∧ plainName a = true ∧
    ∀ (A : Around) (outer : List Env) (s : Shared) (H : Hp) (E : XK) (act : DM → QX → QD → Prop) (v : D), AMono act → Room k (A.deeper (envOfC x sg s.heap.objs.size g cdv)) →
      (∀ (V : WX) (pn : List (Addr × Obj)) (xe : Value → Shared → Prop) (p1 p2 : Pos), Takes ((cxOf (L2.CX P w) P w K mg base Ng x sg g cdv A outer s H E).tr pn xe) V →
        PE ((cxOf (L2.CX P w) P w K mg base Ng x sg g cdv A outer s H E).tr pn xe) (.Call (.Name a p1) [] [] p2) (up ⟨K, mg⟩ V fun δ M Qx Q => match lookD δ 0 with
          | some d => d = v ∧ act M Qx Q
          | none => False)) →
      ∀ (f : Addr) (M : DM) (Qx : QX) (Q : QD) (Qv : VK), RM ⟨K, mg⟩ H M → Rp ⟨K, mg⟩ H M (.ref f) v → CL act M Qx Q → (∀ u H', LQ ⟨K, mg⟩ H M Q u H' → Qv u H') → (∀ c d H', LX ⟨K, mg⟩ H M Qx c d H' → E c d H') →
        ∃ t, PSs (cxOf (L2.CX P w) P w K mg base Ng x sg g cdv A outer s H E) bg t ∧ t { nx := fun _ H' => Qv .non H', rt := Qv } (L2.start Ng [.ref f]) H
/-- where a lambda may be made -/
def TopOk (X : Cx) (k : Nat) : Prop := Room (k + 2) X.A ∧ ∃ c0 P0 : Addr, X.env.code = .ref c0 ∧ LamX.TabB X.base X.mg c0 P0 ∧ (P0, X.env.qual ++ "<lambda>") ∈ tabK X.K ∧ ∀ p ∈ tabK X.K, p.1 = P0 → p.2 = X.env.qual ++ "<lambda>"
/-- the context is as it is written down -/
structure CtxOk (X : Cx) (W : WX) (c : Sc) (k : Nat) (C : Calls) : Prop where
  N : X.N = c.N
  nd : c.N.Nodup
  sc : X.env.scope = c.sc
  calm : X.calm = true
  hr : Room k X.A
  tk : Takes X W
  con : ∀ (i : Nat) (q : Str × D), c.con[i]? = some q → ∃ u v, X.mg q.1 = some u ∧ RelV v u ∧ ∀ H M, Rp (gm X) H M v q.2
  blt : ∀ x ∈ c.blts, X.mg x = none
  call : ∀ (i : Nat) (q : Str × List Str × List Nat), c.defs[i]? = some q → CallOk X k (C.run i) q
  fn : ∀ x, c.fnS x = true → X.fn x = true
  two : Room 2 X.A
  exc : ∀ x ∈ c.excs, ExcOk X.prog X.K X.mg x
  more : c.top = true → TopOk X k
  hd : ∀ i ∈ c.hds, ∀ q, c.defs[i]? = some q → HdOk X.prog X.w X.K X.mg X.base k (C.lam i) q.1
  k2 : 2 ≤ k
  act : ∀ a, c.act = some a → ∀ (V : WX) (pn : List (Addr × Obj)) (xe : Value → Shared → Prop) (p1 p2 : Pos), Takes (X.tr pn xe) V → PE (X.tr pn xe) (.Call (.Name a p1) [] [] p2) (up (gm X) V fun δ M Qx Q => match lookD δ 0 with
    | some d => C.act d M Qx Q
    | none => False)
  exm : ∀ q ∈ c.exm, ∃ A B : Addr, X.mg q.1 = some (.ref A) ∧ X.mg q.2.1 = some (.ref B) ∧ PySem.W.exmOne X.K (.ref A) (.ref B) = some q.2.2
theorem CtxOk.gl {X : Cx} {W : WX} {c : Sc} {k : Nat} {C : Calls} (ok : CtxOk X W c k C) {x : Str} (h : glB c x = true) : Gl X x := by
  unfold glB at h
  rw [Bool.and_eq_true] at h
  show X.env.scope.names.lookup x = _
  rw [ok.sc]
  exact kind_of h.1
theorem CtxOk.vis {X : Cx} {W : WX} {c : Sc} {k : Nat} {C : Calls} (ok : CtxOk X W c k C) {x : Str} (h : visB c x = true) : Vis X.env.scope x := by
  unfold visB at h
  rw [Bool.or_eq_true, Bool.or_eq_true] at h
  rw [ok.sc]
  rcases h with (h | h) | h
  · exact .inl (kind_of h)
  · exact .inr (.inl (kind_of h))
  · exact .inr (.inr (kind_of h))

/-! ### the rules over data -/
section
variable {X : Cx} {W : WX} {c : Sc} {k : Nat} {C : Calls}
abbrev DE (X : Cx) (W : WX) (e : Expr) (t : DTE) : Prop := PE X e (up (gm X) W t)
abbrev DT (X : Cx) (W : WX) (e : Expr) (t : DTT) : Prop := PT X e (upT (gm X) W t)
/-- an argument list: the values, and how many -/
def upAn (G : Gm) (W : WX) (n : Nat) (t : DTA) : TA := fun σ H Qv => ∃ δ M Q Qx, RM G H M ∧ RS G H M σ δ ∧ t δ M Qx Q ∧ (∀ vs H', (∃ ds M', ds.length = n ∧ Ext G.K H M H' M' ∧ RM G H' M' ∧ Rps G H' M' vs ds ∧ Q ds M') → Qv vs H') ∧ (∀ c d H', LX G H M Qx c d H' → W c d σ H')
abbrev DA (X : Cx) (W : WX) (es : List Expr) (t : DTA) : Prop := PA X es (upAn (gm X) W es.length t)

/-- what comes behind a part -/
theorem LQ.then {G : Gm} {H H1 : Hp} {M M1 : DM} {Q : QD} (e : Ext G.K H M H1 M1) {v : V} {H' : Hp} (h : LQ G H1 M1 Q v H') : LQ G H M Q v H' :=
  let ⟨d, M', e', r, a, q⟩ := h; ⟨d, M', e.trans e', r, a, q⟩
theorem LX.then {G : Gm} {H H1 : Hp} {M M1 : DM} {Q : QX} (e : Ext G.K H M H1 M1) {c : Value} {d : Option Addr} {H' : Hp} (h : LX G H1 M1 Q c d H') : LX G H M Q c d H' :=
  let ⟨x, M', e', r, a, q⟩ := h; ⟨x, M', e.trans e', r, a, q⟩

theorem look_at {δ : DS} {i : Nat} {d : D} (h : lookD δ i = some d) : δ[i]? = some (some d) := by
  unfold lookD at h
  split at h
  · rename_i e; cases h; exact e
  · cases h
theorem de_var {x : Str} {p : Pos} {i : Nat} (ok : CtxOk X W c k C) (h1 : slotB c i x = true) (h2 : visB c x = true) (h3 : plainName x = true) :
    DE X W (.Name x p) fun δ M _ Q => res ((lookD δ i).map fun d => (True, d)) M Q := by
  have hp := plain_of h3
  refine pe_wk (pe_var (i := i) (by rw [ok.N]; exact slot_of h1) (ok.vis h2) hp.1 hp.2.1) ?_
  rintro σ H Qv ⟨δ, M, Q, Qx, rm, rs, t, w, _⟩
  obtain ⟨d, e, t⟩ := res_map t
  obtain ⟨v, h, a⟩ := rs.at_ i d (look_at e)
  exact ⟨v, h, lq rm a t.2 w⟩
theorem de_lit {e : Expr} {v : V} {d : D} (h : PE X e (tC v)) (r : ∀ H M, Rp (gm X) H M v d) : DE X W e fun _ M _ Q => Q d M := by
  refine pe_wk h ?_
  rintro σ H Qv ⟨δ, M, Q, Qx, rm, rs, t, w, _⟩
  exact lq rm (r H M) t w
theorem da_nil : DA X W [] fun _ M _ Q => Q [] M := by
  refine pa_wk pa_nil ?_
  rintro σ H Qv ⟨δ, M, Q, Qx, rm, rs, t, w, _⟩
  exact w [] H ⟨[], M, rfl, .refl, rm, .nil, t⟩
theorem da_cons {e : Expr} {es : List Expr} {t : DTE} {u : DTA} (ns : notStar e = true) (h1 : DE X W e t) (h2 : DA X W es u) :
    DA X W (e :: es) fun δ M Qx Q => t δ M Qx fun d M1 => u δ M1 Qx fun ds M2 => Q (d :: ds) M2 := by
  refine pa_wk (pa_cons h1 h2 (star_cons ns)) ?_
  rintro σ H Qv ⟨δ, M, Q, Qx, rm, rs, q, w, wx⟩
  refine ⟨δ, M, _, Qx, rm, rs, q, fun v H1 ⟨d, M1, e1, rm1, a1, q1⟩ => ?_, wx⟩
  refine ⟨δ, M1, _, Qx, rm1, rs.mono e1.toExt0, q1, fun vs H2 ⟨ds, M2, l2, e2, rm2, a2, q2⟩ => ?_, fun c d H' z => wx c d H' (z.then e1)⟩
  exact w _ _ ⟨d :: ds, M2, by rw [List.length_cons, l2, List.length_cons], e1.trans e2, rm2, .cons (a1.mono e2.toExt0) a2, q2⟩
theorem de_tup {es : List Expr} {kk : Nat} {p : Pos} {t : DTA} (h : DA X W es t) (z : es.length ≤ 1000) : DE X W (.Tuple es kk p) fun δ M Qx Q => t δ M Qx fun ds M1 => Q (.tup ds) M1 := by
  refine pe_wk (pe_tup h) ?_
  rintro σ H Qv ⟨δ, M, Q, Qx, rm, rs, q, w, wx⟩
  refine ⟨δ, M, _, Qx, rm, rs, q, fun vs H1 ⟨ds, M1, l1, e1, rm1, a1, q1⟩ => ?_, wx⟩
  have sl := sizeLine_eq
  exact ⟨by rw [a1.length]; omega, fun p n => lqTup rm1 a1 (by omega) n q1 fun v H' z => w v H' (z.then e1)⟩
theorem de_lst {es : List Expr} {p : Pos} {t : DTA} {m : Bool} (h : DA X W es t) (z : es.length ≤ 1000) : DE X W (.List es p) fun δ M Qx Q => t δ M Qx fun ds M1 => newL m ds M1 Q := by
  refine pe_wk (pe_fz (pe_lst h)) ?_
  rintro σ H Qv ⟨δ, M, Q, Qx, rm, rs, q, w, wx⟩
  refine ⟨δ, M, _, Qx, rm, rs, q, fun vs H1 ⟨ds, M1, l1, e1, rm1, a1, q1⟩ => ?_, wx⟩
  have sl := sizeLine_eq
  exact ⟨by rw [a1.length]; omega, fun p n => lqL rm1 a1 (by omega) n q1 fun v H' z => w v H' (z.then e1)⟩
/-- two parts, then an operation of their values -/
theorem up2 {t u : DTE} {f : DOp} {r : R2} (hr : ∀ x y H Q, upO (gm X) f x y H Q → r x y H Q) {σ : L2.St} {H : Hp} {Qv : VK} (h : up (gm X) W (fun δ M Qx Q => t δ M Qx fun x M1 => u δ M1 Qx fun y M2 => f x y M2 Q) σ H Qv) :
    tOp r (up (gm X) W t) (up (gm X) W u) σ H Qv := by
  obtain ⟨δ, M, Q, Qx, rm, rs, q, w, wx⟩ := h
  refine ⟨δ, M, _, Qx, rm, rs, q, fun v H1 ⟨d, M1, e1, rm1, a1, q1⟩ => ?_, wx⟩
  refine ⟨δ, M1, _, Qx, rm1, rs.mono e1.toExt0, q1, fun v2 H2 ⟨d2, M2, e2, rm2, a2, q2⟩ => ?_, fun c d H' z => wx c d H' (z.then e1)⟩
  exact hr _ _ _ _ ⟨M2, d, d2, Q, rm2, a1.mono e2.toExt0, a2, q2, fun v H' z => w v H' ((z.then e2).then e1)⟩
theorem de_bin {a b : Expr} {p : Pos} {t u : DTE} (o : Bop) (h1 : DE X W a t) (h2 : DE X W b u) : DE X W (.BinOp a (bopOf o) b p) fun δ M Qx Q => t δ M Qx fun x M1 => u δ M1 Qx fun y M2 => res (binR o x y) M2 Q :=
  pe_wk (pe_op (op_bin o) h1 h2) fun _ _ _ => up2 (f := fun x y M Q => res (binR o x y) M Q) fun _ _ _ _ z => z
theorem de_cmp {a b : Expr} {p : Pos} {t u : DTE} (ok : CtxOk X W c k C) (o : Cop) (hb : notSet b = true) (h1 : DE X W a t) (h2 : DE X W b u) :
    DE X W (.Compare a [copOf o] [b] p) fun δ M Qx Q => t δ M Qx fun x M1 => u δ M1 Qx fun y M2 => res (cmpR M2 o x y) M2 Q :=
  pe_wk (pe_cmpR (op_cmp (by have := ok.hr.un; omega) o) h1 h2 (no_marks hb)) fun _ _ _ => up2 (f := fun x y M Q => res (cmpR M o x y) M Q) fun _ _ _ _ z => z
theorem de_idx {a b : Expr} {p : Pos} {t u : DTE} (ok : CtxOk X W c k C) (hb : notSlice b = true) (h1 : DE X W a t) (h2 : DE X W b u) :
    DE X W (.Subscript a b p) fun δ M Qx Q => t δ M Qx fun x M1 => u δ M1 Qx fun y M2 => res (idxR M2 x y) M2 Q :=
  pe_wk (pe_ix (ix_any (by have := ok.hr.un; omega)) h1 h2 (plain_ix hb)) fun _ _ _ => up2 (f := fun x y M Q => res (idxR M x y) M Q) fun _ _ _ _ z => z
theorem de_neg {a : Expr} {p : Pos} {t : DTE} (h1 : DE X W a t) : DE X W (.UnaryOp .USub a p) fun δ M Qx Q => t δ M Qx fun x M1 => res (negR x) M1 Q := by
  refine pe_wk (pe_un un_neg h1) ?_
  rintro σ H Qv ⟨δ, M, Q, Qx, rm, rs, q, w, wx⟩
  refine ⟨δ, M, _, Qx, rm, rs, q, fun v H1 ⟨d, M1, e1, rm1, a1, q1⟩ => ?_, wx⟩
  cases d with
  | int i =>
    obtain rfl := a1.inv_int
    exact ⟨i, rfl, lq rm1 (.int _) q1.2 fun v H' z => w v H' (z.then e1)⟩
  | _ => exact q1.elim
/-- a test of an expression's value -/
def tstD (t : DTE) : DTT := fun δ M Qx Q => t δ M Qx fun x M1 => ifD M1 x (Q true M1) (Q false M1)
theorem ifD_of {M : DM} {x : D} {P : Bool → Prop} (h : ifD M x (P true) (P false)) : ∃ b, truthD M x = some b ∧ P b := by
  unfold ifD at h
  split at h
  · exact ⟨true, by assumption, h⟩
  · exact ⟨false, by assumption, h⟩
  · exact h.elim
theorem ifD_to {M : DM} {x : D} {P : Bool → Prop} {b : Bool} (e : truthD M x = some b) (h : P b) : ifD M x (P true) (P false) := by
  unfold ifD
  rw [e]
  cases b <;> exact h
theorem dt_plain {e : Expr} {t : DTE} (hp : plainTest e = true) (h : DE X W e t) : DT X W e (tstD t) := by
  refine pt_wk (pt_truth h (plain_test hp)) ?_
  rintro σ H Qv ⟨δ, M, Q, Qx, rm, rs, q, w, wx⟩
  refine ⟨δ, M, _, Qx, rm, rs, q, fun v H1 ⟨d, M1, e1, rm1, a1, q1⟩ => ?_, wx⟩
  obtain ⟨b, ht, q1⟩ := ifD_of (P := fun b => Q b M1) q1
  exact ⟨b, truV rm1 a1 ht, w b H1 ⟨M1, e1, rm1, q1⟩⟩
theorem cmpR_bl {M : DM} {o : Cop} {x y : D} {p : Prop} {d : D} (h : cmpR M o x y = some (p, d)) : ∃ b, d = .bl b := by
  have inn : ∀ neg, inR M neg x y = some (p, d) → ∃ b, d = .bl b := fun neg h => by
    unfold inR at h
    split at h
    · obtain ⟨c, _, e⟩ := Option.map_eq_some_iff.mp h; cases e; exact ⟨_, rfl⟩
    · split at h
      · cases h; exact ⟨_, rfl⟩
      · obtain ⟨c, _, e⟩ := Option.map_eq_some_iff.mp h; cases e; exact ⟨_, rfl⟩
      · cases h
    · obtain ⟨c, _, e⟩ := Option.map_eq_some_iff.mp h; cases e; exact ⟨_, rfl⟩
  unfold cmpR at h
  split at h <;> first
    | exact inn _ h
    | (cases h; done)
    | (cases h; exact ⟨_, rfl⟩)
    | (obtain ⟨c, _, e⟩ := Option.map_eq_some_iff.mp h; cases e; exact ⟨_, rfl⟩)
theorem cmp_bl {M : DM} {Q : QD} {o : Cop} {x y : D} (h : res (cmpR M o x y) M Q) : ∃ b, res (cmpR M o x y) M (fun d M' => d = .bl b ∧ M' = M) ∧ Q (.bl b) M := by
  cases e : cmpR M o x y with
  | none => rw [e] at h; exact h.elim
  | some r =>
    obtain ⟨p, d⟩ := r
    obtain ⟨b, rfl⟩ := cmpR_bl e
    rw [e] at h
    exact ⟨b, ⟨h.1, rfl, rfl⟩, h.2⟩
theorem dt_cmp {a b : Expr} {p : Pos} {t u : DTE} (ok : CtxOk X W c k C) (o : Cop) (hb : notSet b = true) (h1 : DE X W a t) (h2 : DE X W b u) :
    DT X W (.Compare a [copOf o] [b] p) (tstD fun δ M Qx Q => t δ M Qx fun x M1 => u δ M1 Qx fun y M2 => res (cmpR M2 o x y) M2 Q) := by
  refine pt_wk (pt_cmpR (op_cmp (by have := ok.hr.un; omega) o) h1 h2 (no_marks hb)) ?_
  rintro σ H Qv ⟨δ, M, Q, Qx, rm, rs, q, w, wx⟩
  refine ⟨δ, M, _, Qx, rm, rs, q, fun v H1 ⟨d, M1, e1, rm1, a1, q1⟩ => ?_, wx⟩
  refine ⟨δ, M1, _, Qx, rm1, rs.mono e1.toExt0, q1, fun v2 H2 ⟨d2, M2, e2, rm2, a2, q2⟩ => ?_, fun c d H' z => wx c d H' (z.then e1)⟩
  obtain ⟨b, h3, h4⟩ := cmp_bl q2
  refine ⟨M2, d, d2, _, rm2, a1.mono e2.toExt0, a2, h3, fun v H' z => ?_⟩
  obtain ⟨d', M', e', rm', a', rfl, rfl⟩ := z
  obtain rfl := a'.inv_bl
  exact ⟨b, rfl, w b H' ⟨M', (e1.trans e2).trans e', rm', by cases b <;> exact h4⟩⟩
/-- a reading that asks no more than it says -/
def Mono (t : DTE) : Prop := ∀ {δ : DS} {M : DM} {Qx : QX} {Q Q' : QD}, (∀ d M, Q d M → Q' d M) → t δ M Qx Q → t δ M Qx Q'
theorem dt_not {a : Expr} {p : Pos} {t : DTE} (mono : Mono t) (h : DT X W a (tstD t)) : DT X W (.UnaryOp .Not a p) (tstD fun δ M Qx Q => t δ M Qx fun x M1 => res (notR M1 x) M1 Q) := by
  refine pt_wk (pt_not h) ?_
  rintro σ H Qv ⟨δ, M, Q, Qx, rm, rs, q, w, wx⟩
  refine ⟨δ, M, fun b M1 => Q (!b) M1, Qx, rm, rs, mono (fun d M1 q => ?_) q, fun b H1 ⟨M1, e1, rm1, q1⟩ => w (!b) H1 ⟨M1, e1, rm1, q1⟩, wx⟩
  obtain ⟨b, e, q⟩ := res_map q
  refine ifD_to (P := fun b => Q (!b) M1) e ?_
  have q := q.2
  cases b <;> exact q
end
end Dw
set_option Elab.async false
set_option linter.all false
set_option maxRecDepth 100000
set_option maxHeartbeats 4000000
/-! Dw7: logic, calls, built-in functions, methods, slices, over data. -/
namespace Dw
open PySem PySem.Spec PyProof.Rows L2

section
variable {X : Cx} {W : WX} {c : Sc} {k : Nat} {C : Calls}
theorem ifD_cases {M : DM} {x : D} {P R : Prop} (h : ifD M x P R) : (truthD M x = some true ∧ P) ∨ (truthD M x = some false ∧ R) := by
  unfold ifD at h
  split at h
  · exact .inl ⟨by assumption, h⟩
  · exact .inr ⟨by assumption, h⟩
  · exact h.elim
theorem ifD_true {M : DM} {x : D} {P R : Prop} (e : truthD M x = some true) (h : P) : ifD M x P R := by
  unfold ifD; rw [e]; exact h
theorem ifD_false {M : DM} {x : D} {P R : Prop} (e : truthD M x = some false) (h : R) : ifD M x P R := by
  unfold ifD; rw [e]; exact h
/-- a part, then what hangs on it -/
theorem up.bind {t : DTE} {q : DS → DM → QX → QD → D → DM → Prop} {σ : L2.St} {H : Hp} {Qv : VK}
    (h : up (gm X) W (fun δ M Qx Q => t δ M Qx (q δ M Qx Q)) σ H Qv) :
    up (gm X) W t σ H (fun v H1 => ∃ δ M1 Q Qx d M, RM (gm X) H1 M1 ∧ RS (gm X) H1 M1 σ δ ∧ Rp (gm X) H1 M1 v d ∧ q δ M Qx Q d M1 ∧ (∀ v H', LQ (gm X) H1 M1 Q v H' → Qv v H') ∧ (∀ c d H', LX (gm X) H1 M1 Qx c d H' → W c d σ H')) := by
  obtain ⟨δ, M, Q, Qx, rm, rs, h, w, wx⟩ := h
  refine ⟨δ, M, _, Qx, rm, rs, h, fun v H1 ⟨d, M1, e1, rm1, a1, q1⟩ => ?_, wx⟩
  exact ⟨δ, M1, Q, Qx, d, M, rm1, rs.mono e1.toExt0, a1, q1, fun v H' z => w v H' (z.then e1), fun c d H' z => wx c d H' (z.then e1)⟩

theorem de_one {op : BoolOp} {a : Expr} {p : Pos} {t : DTE} (h : DE X W a t) : DE X W (.BoolOp op [a] p) t := pe_one h
theorem de_and {a b : Expr} {r : List Expr} {p : Pos} {t u : DTE} (h1 : DE X W a t) (h2 : DE X W (.BoolOp .And (b :: r) p) u) :
    DE X W (.BoolOp .And (a :: b :: r) p) fun δ M Qx Q => t δ M Qx fun x M1 => ifD M1 x (u δ M1 Qx Q) (Q x M1) := by
  refine pe_wk (pe_andT h1 h2) ?_
  rintro σ H Qv ⟨δ, M, Q, Qx, rm, rs, q, w, wx⟩
  refine ⟨δ, M, _, Qx, rm, rs, q, fun v H1 ⟨d, M1, e1, rm1, a1, q1⟩ => ?_, wx⟩
  rcases ifD_cases q1 with ⟨e, q1⟩ | ⟨e, q1⟩
  · exact ⟨true, truV rm1 a1 e, δ, M1, Q, Qx, rm1, rs.mono e1.toExt0, q1, fun v H' z => w v H' (z.then e1), fun c d H' z => wx c d H' (z.then e1)⟩
  · exact ⟨false, truV rm1 a1 e, w v H1 ⟨d, M1, e1, rm1, a1, q1⟩⟩
theorem de_or {a b : Expr} {r : List Expr} {p : Pos} {t u : DTE} (h1 : DE X W a t) (h2 : DE X W (.BoolOp .Or (b :: r) p) u) :
    DE X W (.BoolOp .Or (a :: b :: r) p) fun δ M Qx Q => t δ M Qx fun x M1 => ifD M1 x (Q x M1) (u δ M1 Qx Q) := by
  refine pe_wk (pe_orT h1 h2) ?_
  rintro σ H Qv ⟨δ, M, Q, Qx, rm, rs, q, w, wx⟩
  refine ⟨δ, M, _, Qx, rm, rs, q, fun v H1 ⟨d, M1, e1, rm1, a1, q1⟩ => ?_, wx⟩
  rcases ifD_cases q1 with ⟨e, q1⟩ | ⟨e, q1⟩
  · exact ⟨true, truV rm1 a1 e, w v H1 ⟨d, M1, e1, rm1, a1, q1⟩⟩
  · exact ⟨false, truV rm1 a1 e, δ, M1, Q, Qx, rm1, rs.mono e1.toExt0, q1, fun v H' z => w v H' (z.then e1), fun c d H' z => wx c d H' (z.then e1)⟩
/-- tests -/
abbrev DW (X : Cx) (W : WX) (e : Expr) (t : DTT) : Prop := PW X e (upT (gm X) W t)
theorem pw_wk {e : Expr} {t u : TT} (h : PW X e t) (w : ∀ σ H Q, u σ H Q → t σ H Q) : PW X e u := ⟨fun wh pins s σ H Q I q => h.run wh pins s σ H Q I (w σ H Q q)⟩
theorem dw_one {op : BoolOp} {a : Expr} {p : Pos} {t : DTT} (h : DT X W a t) : DW X W (.BoolOp op [a] p) t := by
  cases op with
  | And => exact pw_and1 h
  | Or => exact pw_or1 h
theorem dw_and {a b : Expr} {r : List Expr} {p : Pos} {t u : DTE} (mono : Mono t) (h1 : DT X W a (tstD t)) (h2 : DW X W (.BoolOp .And (b :: r) p) (tstD u)) :
    DW X W (.BoolOp .And (a :: b :: r) p) (tstD fun δ M Qx Q => t δ M Qx fun x M1 => ifD M1 x (u δ M1 Qx Q) (Q x M1)) := by
  refine pw_wk (pw_and h1 h2) ?_
  rintro σ H Qv ⟨δ, M, Q, Qx, rm, rs, q, w, wx⟩
  refine ⟨δ, M, fun b M1 => (match b with | true => tstD u δ M1 Qx Q | false => Q false M1), Qx, rm, rs, mono (fun d M1 q => ?_) q, fun b H1 ⟨M1, e1, rm1, q1⟩ => ?_, wx⟩
  · rcases ifD_cases q with ⟨e, q⟩ | ⟨e, q⟩
    · exact ifD_true e q
    · refine ifD_false e ?_
      show Q false M1
      unfold ifD at q
      rw [e] at q
      exact q
  · cases b with
    | true => exact ⟨δ, M1, Q, Qx, rm1, rs.mono e1.toExt0, q1, fun b H' ⟨M', e', z⟩ => w b H' ⟨M', e1.trans e', z⟩, fun c d H' z => wx c d H' (z.then e1)⟩
    | false => exact w false H1 ⟨M1, e1, rm1, q1⟩
theorem dw_or {a b : Expr} {r : List Expr} {p : Pos} {t u : DTE} (mono : Mono t) (h1 : DT X W a (tstD t)) (h2 : DW X W (.BoolOp .Or (b :: r) p) (tstD u)) :
    DW X W (.BoolOp .Or (a :: b :: r) p) (tstD fun δ M Qx Q => t δ M Qx fun x M1 => ifD M1 x (Q x M1) (u δ M1 Qx Q)) := by
  refine pw_wk (pw_or h1 h2) ?_
  rintro σ H Qv ⟨δ, M, Q, Qx, rm, rs, q, w, wx⟩
  refine ⟨δ, M, fun b M1 => (match b with | true => Q true M1 | false => tstD u δ M1 Qx Q), Qx, rm, rs, mono (fun d M1 q => ?_) q, fun b H1 ⟨M1, e1, rm1, q1⟩ => ?_, wx⟩
  · rcases ifD_cases q with ⟨e, q⟩ | ⟨e, q⟩
    · refine ifD_true e ?_
      show Q true M1
      unfold ifD at q
      rw [e] at q
      exact q
    · exact ifD_false e q
  · cases b with
    | true => exact w true H1 ⟨M1, e1, rm1, q1⟩
    | false => exact ⟨δ, M1, Q, Qx, rm1, rs.mono e1.toExt0, q1, fun b H' ⟨M', e', z⟩ => w b H' ⟨M', e1.trans e', z⟩, fun c d H' z => wx c d H' (z.then e1)⟩
theorem de_ife {c a b : Expr} {p : Pos} {t u r : DTE} (h1 : DT X W c (tstD t)) (h2 : DE X W a u) (h3 : DE X W b r) :
    DE X W (.IfExp c a b p) fun δ M Qx Q => t δ M Qx fun x M1 => ifD M1 x (u δ M1 Qx Q) (r δ M1 Qx Q) := by
  refine pe_wk (pe_ifExp h1 h2 h3) ?_
  rintro σ H Qv ⟨δ, M, Q, Qx, rm, rs, q, w, wx⟩
  refine ⟨δ, M, fun b M1 => (match b with | true => u δ M1 Qx Q | false => r δ M1 Qx Q), Qx, rm, rs, q, fun b H1 ⟨M1, e1, rm1, q1⟩ => ?_, wx⟩
  · cases b with
    | true => exact ⟨δ, M1, Q, Qx, rm1, rs.mono e1.toExt0, q1, fun b H' z => w b H' (z.then e1), fun c d H' z => wx c d H' (z.then e1)⟩
    | false => exact ⟨δ, M1, Q, Qx, rm1, rs.mono e1.toExt0, q1, fun b H' z => w b H' (z.then e1), fun c d H' z => wx c d H' (z.then e1)⟩
/-- a o b o' c -/
def chD (o o' : Cop) (t u r : DTE) : DTE := fun δ M Qx Q => t δ M Qx fun x M1 => u δ M1 Qx fun y M2 => res (cmpR M2 o x y) M2 fun z M3 => ifD M3 z (r δ M3 Qx fun w M4 => res (cmpR M4 o' y w) M4 Q) (Q (.bl false) M3)
theorem up_chain {o o' : Cop} {t u r : DTE} {σ : L2.St} {H : Hp} {Qv : VK} (h : up (gm X) W (chD o o' t u r) σ H Qv) :
    tChain (upO (gm X) fun x y M Q => res (cmpR M o x y) M Q) (upO (gm X) fun x y M Q => res (cmpR M o' x y) M Q) (up (gm X) W t) (up (gm X) W u) (up (gm X) W r) σ H Qv := by
  obtain ⟨δ, M, Q, Qx, rm, rs, q, w, wx⟩ := h
  refine ⟨δ, M, _, Qx, rm, rs, q, fun v H1 ⟨d, M1, e1, rm1, a1, q1⟩ => ?_, wx⟩
  refine ⟨δ, M1, _, Qx, rm1, rs.mono e1.toExt0, q1, fun v2 H2 ⟨d2, M2, e2, rm2, a2, q2⟩ => ?_, fun c d H' z => wx c d H' (z.then e1)⟩
  obtain ⟨b, h3, h4⟩ := cmp_bl q2
  refine ⟨M2, d, d2, _, rm2, a1.mono e2.toExt0, a2, h3, fun z H3 hz => ?_⟩
  obtain ⟨d', M', e', rm', a', rfl, rfl⟩ := hz
  obtain rfl := a'.inv_bl
  have e3 := (e1.trans e2).trans e'
  refine ⟨b, rfl, ?_⟩
  cases b with
  | true =>
    refine ⟨δ, M', _, Qx, rm', (rs.mono e3.toExt0), h4, fun v4 H4 ⟨d4, M4, e4, rm4, a4, q4⟩ => ?_, fun c d H' z => wx c d H' (z.then e3)⟩
    exact ⟨M4, d2, d4, Q, rm4, (a2.mono e'.toExt0).mono e4.toExt0, a4, q4, fun v H' z => w v H' ((z.then e4).then e3)⟩
  | false => exact w _ H3 ⟨.bl false, M', e3, rm', .bl false, h4⟩
def notSetL (es : List Expr) : Bool := es.all notSet
theorem last_marks {o o' : CmpOp} {a b : Expr} (h : notSetL [a, b] = true) : lastMarks [o, o'] [a, b] = false := by
  unfold notSetL at h
  simp only [List.all_cons, List.all_nil, Bool.and_true, Bool.and_eq_true] at h
  show behindInMarks o' b = false
  exact no_marks h.2
theorem de_chain {x y z : Expr} {p : Pos} {t u r : DTE} (ok : CtxOk X W c k C) (o o' : Cop) (hb : notSetL [y, z] = true) (h1 : DE X W x t) (h2 : DE X W y u) (h3 : DE X W z r) :
    DE X W (.Compare x [copOf o, copOf o'] [y, z] p) (chD o o' t u r) :=
  pe_wk (pe_chain (op_cmp (by have := ok.hr.un; omega) o) (op_cmp (by have := ok.hr.un; omega) o') h1 h2 h3 (last_marks hb)) fun _ _ _ => up_chain
theorem dt_chain {x y z : Expr} {p : Pos} {t u r : DTE} (m1 : Mono t) (m2 : Mono u) (m3 : Mono r) (ok : CtxOk X W c k C) (o o' : Cop) (hb : notSetL [y, z] = true) (h1 : DE X W x t) (h2 : DE X W y u) (h3 : DE X W z r) :
    DT X W (.Compare x [copOf o, copOf o'] [y, z] p) (tstD (chD o o' t u r)) := by
  refine pt_wk (pt_chain (op_cmp (by have := ok.hr.un; omega) o) (op_cmp (by have := ok.hr.un; omega) o') h1 h2 h3 (last_marks hb)) ?_
  rintro σ H Qv ⟨δ, M, Q, Qx, rm, rs, q, w, wx⟩
  refine up_chain ⟨δ, M, fun d M' => ∃ b, d = .bl b ∧ Q b M', Qx, rm, rs, ?_, fun v H' ⟨d, M', e', rm', a', b, hb, q'⟩ => ?_, wx⟩
  · refine m1 (fun _ _ q => m2 (fun _ _ q => ?_) q) q
    refine res_mono (fun z M3 q => ifD_mono (fun q => m3 (fun w M4 q => ?_) q) (fun q => ⟨false, rfl, q⟩) q) q
    obtain ⟨b, h3, h4⟩ := cmp_bl q
    refine res_mono (fun d M5 z => ?_) h3
    obtain ⟨rfl, rfl⟩ := z
    exact ⟨b, rfl, by cases b <;> exact h4⟩
  · subst hb
    obtain rfl := a'.inv_bl
    exact ⟨b, rfl, w b H' ⟨M', e', rm', q'⟩⟩

/-! ### calls -/
theorem gl_plain {x : Str} (h : glB c x = true) : (x == ("__debug__" : Str)) = false ∧ x ≠ "__name__" := by
  unfold glB at h
  rw [Bool.and_eq_true] at h
  have := plain_of h.2
  exact ⟨this.1, this.2.2⟩
theorem de_call {f : Nat} {x : Str} {n : List Str × List Nat} {e : Expr} {es : List Expr} {p pos : Pos} {t : DTA} (ok : CtxOk X W c k C) (hf : c.defs[f]? = some (x, n)) (hg : glB c x = true) (hs : (e :: es).all notStar = true)
    (ha : DA X W (e :: es) t) : DE X W (.Call (.Name x p) (e :: es) [] pos) fun δ M Qx Q => t δ M Qx fun ds M1 => C.run f ds M1 Qx Q := by
  obtain ⟨fa, fd, hm, hk, hb, _, F⟩ := ok.call f _ hf
  obtain ⟨s1, s2⟩ := Bool.and_eq_true_iff.mp (show (notStar e && es.all notStar) = true from hs)
  refine pe_wk (pe_callS F ok.hr (ok.gl hg) hm hk hb (passAt ok.tk) ha (gl_plain hg).1 (star_cons s1) (star_plain s2)) ?_
  rintro σ H Qv ⟨δ, M, Q, Qx, rm, rs, q, w, wx⟩
  refine ⟨δ, M, _, Qx, rm, rs, q, fun vs H1 ⟨ds, M1, l1, e1, rm1, a1, q1⟩ => ?_, wx⟩
  exact ⟨M1, ds, Q, Qx, rm1, a1, q1, fun v H' z => w v H' (z.then e1), fun c d H' z => wx c d H' (z.then e1)⟩
theorem de_call0 {f : Nat} {x : Str} {n : List Str × List Nat} {p pos : Pos} (ok : CtxOk X W c k C) (hf : c.defs[f]? = some (x, n)) (hg : glB c x = true) :
    DE X W (.Call (.Name x p) [] [] pos) fun δ M Qx Q => C.run f [] M Qx Q := by
  obtain ⟨fa, fd, hm, hk, hb, _, F⟩ := ok.call f _ hf
  refine ⟨fun pins s σ H Qv I h => ?_⟩
  obtain ⟨δ, M, Q, Qx, rm, rs, q, w, wx⟩ := h
  refine wpAny_Call_Name_kw (ld_glob I (ok.gl hg) hm ?_ (gl_plain hg).1)
  exact PySem.W.callWith_K0 I.kIn hk (run_fnS (us := []) F ok.hr hb (passAt ok.tk σ) I .nil ⟨M, [], Q, Qx, rm, .nil, q, w, wx⟩)

/-- values of keywords -/
def DK (X : Cx) (W : WX) (kws : List Keyword) (t : DTA) : Prop := PK X kws (upAn (gm X) W kws.length t)
theorem pk_wk {es : List Keyword} {t u : TA} (h : PK X es t) (w : ∀ σ H Q, u σ H Q → t σ H Q) : PK X es u := ⟨fun p pins s σ H Q I q => h.run p pins s σ H Q I (w σ H Q q)⟩
theorem dk_nil : DK X W [] fun _ M _ Q => Q [] M := by
  refine pk_wk pk_nil ?_
  rintro σ H Qv ⟨δ, M, Q, Qx, rm, rs, t, w, _⟩
  exact w [] H ⟨[], M, rfl, .refl, rm, .nil, t⟩
theorem dk_cons {nm : Str} {e : Expr} {p : Pos} {es : List Keyword} {t : DTE} {u : DTA} (h1 : DE X W e t) (h2 : DK X W es u) :
    DK X W (⟨some nm, e, p⟩ :: es) fun δ M Qx Q => t δ M Qx fun d M1 => u δ M1 Qx fun ds M2 => Q (d :: ds) M2 := by
  refine pk_wk (pk_cons h1 h2) ?_
  rintro σ H Qv ⟨δ, M, Q, Qx, rm, rs, q, w, wx⟩
  refine ⟨δ, M, _, Qx, rm, rs, q, fun v H1 ⟨d, M1, e1, rm1, a1, q1⟩ => ?_, wx⟩
  refine ⟨δ, M1, _, Qx, rm1, rs.mono e1.toExt0, q1, fun vs H2 ⟨ds, M2, l2, e2, rm2, a2, q2⟩ => ?_, fun c d H' z => wx c d H' (z.then e1)⟩
  exact w _ _ ⟨d :: ds, M2, by rw [List.length_cons, l2, List.length_cons], e1.trans e2, rm2, .cons (a1.mono e2.toExt0) a2, q2⟩
def kwNames (kws : List Keyword) : List (Option Str) := kws.map (·.arg)
theorem kw_some {env : Env} {pos : Pos} : ∀ {kws : List Keyword} {ks : List Str}, kwNames kws = ks.map some →
    (backToKw pos (keywordEach kws env)).all (·.1.isSome) = true ∧ (backToKw pos (keywordEach kws env)).filterMap (·.1) = ks ∧ (backToKw pos (keywordEach kws env)).any (·.1.isNone) = false
  | [], ks, h => by
    cases ks with
    | nil => exact ⟨rfl, rfl, rfl⟩
    | cons k ks => cases h
  | ⟨nm, e, p⟩ :: kws, ks, h => by
    cases ks with
    | nil => cases h
    | cons k ks =>
      have h : nm :: kwNames kws = some k :: ks.map some := h
      injection h with h1 h2
      subst h1
      obtain ⟨a, b, c⟩ := kw_some (env := env) (pos := pos) h2
      exact ⟨a, congrArg (k :: ·) b, c⟩
theorem run_fnSK {fd : FuncData} {ps ks : List Str} {sp : Sp} {E : L2.St → XK} {f : Addr} {pins : List (Addr × Obj)} {σ : L2.St} {H : Hp} {s : Shared} {Q : VK} {us ws : List Value} {vs : List V} (F : FnOk X.prog X.w X.K X.mg X.base (L2.CX X.prog X.w) k f fd ps sp) (hr : Room k X.A)
    (hb : BindsTo s fd ⟨us, ks.zip ws⟩ (ps.zip (us ++ ws))) (hx : PassesAt (L2.CX X.prog X.w) X σ (E σ)) (I : Inv X pins σ H s) (r : Vals vs (us ++ ws)) (h : sp vs H Q (E σ)) : wpAny (model X.prog X.w) X.A (call (.ref f) us (ks.zip ws)) (EP X pins σ Q) X.xe s := by
  refine wpAny_call (codeAny_mono (F.run X.A X.stack s H ⟨us, ks.zip ws⟩ (us ++ ws) vs Q (E σ) hr I.env0 hb r h) fun r s' hq => ?_)
  cases r with
  | error e => exact hx pins H s e s' I hq
  | ok fl => cases fl <;> first
    | exact I.after hq
    | exact False.elim hq
theorem vals_app {vs zs : List V} {us ws : List Value} (a : Vals vs us) (b : Vals zs ws) : Vals (vs ++ zs) (us ++ ws) := a.append b
theorem de_callK {f : Nat} {x : Str} {ps : List Str} {js : List Nat} {es : List Expr} {kws : List Keyword} {p pos : Pos} {t u : DTA} (ok : CtxOk X W c k C) (hf : c.defs[f]? = some (x, ps, js)) (hg : glB c x = true) (hs : es.all notStar = true)
    (hj : js.contains es.length = true) (lj : es.length ≤ ps.length) (h0 : es = [] → ∀ δ M Qx Q, t δ M Qx Q → Q [] M) (hn : kwNames kws = (ps.drop es.length).map some) (ha : DA X W es t) (hk : DK X W kws u) : DE X W (.Call (.Name x p) es kws pos) fun δ M Qx Q => t δ M Qx fun ds M1 => u δ M1 Qx fun ds2 M2 => C.run f (ds ++ ds2) M2 Qx Q := by
  obtain ⟨fa, fd, hm, hkp, _, hkw, F⟩ := ok.call f _ hf
  obtain ⟨k1, k2, k3⟩ := kw_some (env := X.env) (pos := pos) hn
  have sp := star_plain (env := X.env) (pos := pos) hs
  refine ⟨fun pins s σ H Qv I h => ?_⟩
  obtain ⟨δ, M, Q, Qx, rm, rs, q, w, wx⟩ := h
  refine wpAny_Call_Name_kw (ld_glob I (ok.gl hg) hm ?_ (gl_plain hg).1)
  have fin : ∀ (us : List Value) (s1 : Shared), AP X pins σ (fun vs H1 => ∃ ds M1, ds.length = es.length ∧ Ext (gm X).K H M H1 M1 ∧ RM (gm X) H1 M1 ∧ Rps (gm X) H1 M1 vs ds ∧ u δ M1 Qx fun ds2 M2 => C.run f (ds ++ ds2) M2 Qx Q) us s1 →
      wpAny (model X.prog X.w) X.A (evalAll ((backToKw pos (keywordEach kws X.env)).map (·.2))) (fun ks s2 => X.K.In s2.heap ∧ wpAny (model X.prog X.w) X.A (call (.ref fa) ([] ++ us) (((backToKw pos (keywordEach kws X.env)).filterMap (·.1)).zip ks)) (EP X pins σ Qv) X.xe s2) X.xe s1 := by
    rintro us s1 ⟨vs, H1, I1, r, ds, M1, l1, e1, rm1, a1, q1⟩
    refine thn (hk.run pos pins s1 σ H1 (fun zs H2 => ∃ ds2 M2, ds2.length = kws.length ∧ Ext (gm X).K H1 M1 H2 M2 ∧ RM (gm X) H2 M2 ∧ Rps (gm X) H2 M2 zs ds2 ∧ C.run f (ds ++ ds2) M2 Qx Q) I1
      ⟨δ, M1, _, Qx, rm1, rs.mono e1.toExt0, q1, fun vs H' z => z, fun c d H' z => wx c d H' (z.then e1)⟩) fun ws s2 ⟨zs, H2, I2, rz, ds2, M2, l2, e2, rm2, a2, q2⟩ => ⟨I2.kIn, ?_⟩
    rw [k2, List.nil_append]
    have e12 := e1.trans e2
    have lu : us.length = es.length := by rw [← r.length, a1.length, l1]
    have lw : ws.length = kws.length := by rw [← rz.length, a2.length, l2]
    have lk : kws.length = (ps.drop es.length).length := by
      have := congrArg List.length hn
      simpa [kwNames] using this
    rw [List.length_drop] at lk
    exact run_fnSK F ok.hr (BindsTo.of_eq (hkw es.length (List.contains_iff_mem.mp hj) us ws lu (by show us.length + ws.length = ps.length; omega))) (passAt ok.tk σ) I2 (r.append rz)
      ⟨M2, ds ++ ds2, Q, Qx, rm2, (a1.mono e2.toExt0).append a2, q2, fun v H' z => w v H' (z.then e12), fun c d H' z => wx c d H' (z.then e12)⟩
  have start : ∀ (cont : List Value → Shared → Prop), (∀ us s1, AP X pins σ (fun vs H1 => ∃ ds M1, ds.length = es.length ∧ Ext (gm X).K H M H1 M1 ∧ RM (gm X) H1 M1 ∧ Rps (gm X) H1 M1 vs ds ∧ u δ M1 Qx fun ds2 M2 => C.run f (ds ++ ds2) M2 Qx Q) us s1 → cont us s1) →
      wpAny (model X.prog X.w) X.A (spliced (backTo pos (starEach es X.env))) cont X.xe s := fun cont hc =>
    thn (ha.run pos pins s σ H _ I ⟨δ, M, _, Qx, rm, rs, q, fun vs H' z => z, wx⟩) hc
  cases es with
  | nil =>
    refine PySem.W.callWith_KW0 (h₀ := X.base) I.ok.mod.kin hkp k1 ?_ (by rw [k3]; rfl)
    exact fin [] s ⟨[], H, I, .nil, [], M, rfl, .refl, rm, .nil, h0 rfl _ _ _ _ q⟩
  | cons e es =>
    obtain ⟨s1, s2⟩ := Bool.and_eq_true_iff.mp (show (notStar e && es.all notStar) = true from hs)
    exact PySem.W.callWith_KW (h₀ := X.base) I.ok.mod.kin hkp k1 (start _ fin) (by rw [sp, k3]; rfl) (star_cons s1)

/-! ### built-in functions -/
theorem de_blt {b : Blt} {e : Expr} {es : List Expr} {p pos : Pos} {t : DTA} (ok : CtxOk X W c k C) (hb : c.blts.contains (bltName b) = true) (hg : glB c (bltName b) = true) (hs : (e :: es).all notStar = true)
    (ha : DA X W (e :: es) t) : DE X W (.Call (.Name (bltName b) p) (e :: es) [] pos) fun δ M Qx Q => t δ M Qx fun ds M1 => res (bltR M1 b ds) M1 Q := by
  obtain ⟨s1, s2⟩ := Bool.and_eq_true_iff.mp (show (notStar e && es.all notStar) = true from hs)
  have hm := ok.blt _ (List.contains_iff_mem.mp hb)
  have base : PE X (.Call (.Name (bltName b) p) (e :: es) [] pos) (tCB (upL (gm X) fun ds M Q => res (bltR M b ds) M Q) (upAn (gm X) W (e :: es).length t)) := by
    have hc := call_blt ok.calm b
    have hv := blt_boot b
    have st := star_cons (es := es) (env := X.env) s1
    have sp := star_plain (env := X.env) (pos := pos) s2
    have hg := ok.gl hg
    cases b <;> first
      | exact pe_callB hc hg hm hv ha (by decide) (by decide) st sp
      | exact pe_callTy hc hg hm hv ha (by decide) (by decide) st sp
  refine pe_wk base ?_
  rintro σ H Qv ⟨δ, M, Q, Qx, rm, rs, q, w, wx⟩
  refine ⟨δ, M, _, Qx, rm, rs, q, fun vs H1 ⟨ds, M1, l1, e1, rm1, a1, q1⟩ => ?_, wx⟩
  exact ⟨M1, ds, Q, rm1, a1, q1, fun v H' z => w v H' (z.then e1)⟩
/-- the name of a type -/
def tyName : Ty → Str
  | .str => "str"
  | .int => "int"
  | .bool => "bool"
  | .tuple => "tuple"
  | .list => "list"
  | .dict => "dict"
theorem ty_boot (t : Ty) : bootBuiltins (tyName t) = some (.type (tyS t)) := by cases t <;> decide +kernel
theorem ty_plain (t : Ty) : tyName t ≠ "__name__" ∧ (tyName t == ("__debug__" : Str)) = false := by cases t <;> decide
theorem pe_ty {t : Ty} {p : Pos} (ok : CtxOk X W c k C) (hb : c.blts.contains (tyName t) = true) (hg : glB c (tyName t) = true) : PE X (.Name (tyName t) p) (tC (.ty (tyS t))) :=
  pe_bltn (ok.gl hg) (ok.blt _ (List.contains_iff_mem.mp hb)) (ty_boot t) rfl (ty_plain t).1 (ty_plain t).2
theorem boot_isi : bootBuiltins "isinstance" = some (.builtin "isinstance") := by decide +kernel
theorem de_isi1 {ty : Ty} {e : Expr} {p p2 pos : Pos} {t : DTE} (ok : CtxOk X W c k C) (hi : c.blts.contains "isinstance" = true) (hgi : glB c "isinstance" = true) (hb : c.blts.contains (tyName ty) = true) (hg : glB c (tyName ty) = true) (hs : notStar e = true)
    (ha : DE X W e t) : DE X W (.Call (.Name "isinstance" p) [e, .Name (tyName ty) p2] [] pos) fun δ M Qx Q => t δ M Qx fun x M1 => res (isiR M1 x [ty]) M1 Q := by
  have hA : PA X [e, .Name (tyName ty) p2] (tCons (up (gm X) W t) (tCons (tC (.ty (tyS ty))) tNil)) := pa_cons ha (pa_cons (pe_ty ok hb hg) pa_nil) (star_cons hs)
  refine pe_wk (pe_callB call_isi (ok.gl hgi) (ok.blt _ (List.contains_iff_mem.mp hi)) boot_isi hA (by decide) (by decide) (star_cons hs) rfl) ?_
  rintro σ H Qv ⟨δ, M, Q, Qx, rm, rs, q, w, wx⟩
  refine ⟨δ, M, _, Qx, rm, rs, q, fun v H1 ⟨d, M1, e1, rm1, a1, q1⟩ => ?_, wx⟩
  obtain ⟨b, hb, q1⟩ := res_map q1
  obtain ⟨u, tu, hu⟩ := isTy_ty (t := ty) (b := b) rm1 a1 (by
    unfold isTys at hb
    cases e : isTy M1 d ty with
    | none => rw [e] at hb; cases hb
    | some c' =>
      rw [e] at hb
      cases c' with
      | true => exact hb
      | false => exact hb)
  have hb1 : isTy M1 d ty = some b := by
    unfold isTys at hb
    cases e : isTy M1 d ty with
    | none => rw [e] at hb; cases hb
    | some c' =>
      rw [e] at hb
      cases c' with
      | true => exact hb
      | false => exact hb
  exact ⟨v, .ty (tyS ty), u, .type (tyS ty), b, rfl, .ty _, tu, hu ty b hb1, w _ _ ⟨.bl b, M1, e1, rm1, .bl b, q1.2⟩⟩
end
end Dw
set_option Elab.async false
set_option linter.all false
set_option maxRecDepth 100000
set_option maxHeartbeats 4000000
/-! Dw8: more of expressions: classes, methods, slices; what loops walk; targets. -/
namespace Dw
open PySem PySem.Spec PyProof.Rows L2

section
variable {X : Cx} {W : WX} {c : Sc} {k : Nat} {C : Calls}
theorem up.case {t : DTE} {f : D → DM → QD → Prop} {σ : L2.St} {H : Hp} {Qv : VK} (h : up (gm X) W (fun δ M Qx Q => t δ M Qx fun x M1 => f x M1 Q) σ H Qv) :
    up (gm X) W t σ H (fun v H1 => ∃ M1 Q d, RM (gm X) H1 M1 ∧ Rp (gm X) H1 M1 v d ∧ f d M1 Q ∧ (∀ v H', LQ (gm X) H1 M1 Q v H' → Qv v H')) := by
  obtain ⟨δ, M, Q, Qx, rm, rs, q, w, wx⟩ := h
  exact ⟨δ, M, _, Qx, rm, rs, q, fun v H1 ⟨d, M1, e1, rm1, a1, q1⟩ => ⟨M1, Q, d, rm1, a1, q1, fun v H' z => w v H' (z.then e1)⟩, wx⟩
/-! ### isinstance(e, (A, B, ..)) -/
def isNames (c : Sc) : List Expr → List Ty → Bool
  | [], [] => true
  | .Name x _ :: es, t :: ts => x == tyName t && c.blts.contains x && glB c x && isNames c es ts
  | _, _ => false
theorem pa_tys (ok : CtxOk X W c k C) : ∀ {es : List Expr} {ts : List Ty}, isNames c es ts = true → PA X es (fun _ H Q => Q (ts.map fun t => V.ty (tyS t)) H)
  | [], [], _ => pa_nil
  | .Name x p :: es, t :: ts, h => by
    have h : (x == tyName t && c.blts.contains x && glB c x && isNames c es ts) = true := h
    simp only [Bool.and_eq_true] at h
    obtain ⟨⟨⟨h1, h2⟩, h3⟩, h4⟩ := h
    obtain rfl := eq_of_beq h1
    exact pa_wk (pa_cons (pe_ty ok h2 h3) (pa_tys ok h4) rfl) fun σ H Q q => q
  | [], _ :: _, h => by cases h
  | .Name _ _ :: _, [], h => by cases h
theorem de_isiT {ty : List Ty} {e : Expr} {es : List Expr} {kk : Nat} {p p2 pos : Pos} {t : DTE} (ok : CtxOk X W c k C) (hi : c.blts.contains "isinstance" = true) (hgi : glB c "isinstance" = true) (hn : isNames c es ty = true) (hz : ty.length ≤ 1000) (hne : ty ≠ []) (hs : notStar e = true)
    (ha : DE X W e t) : DE X W (.Call (.Name "isinstance" p) [e, .Tuple es kk p2] [] pos) fun δ M Qx Q => t δ M Qx fun x M1 => res (isiR M1 x ty) M1 Q := by
  have hA : PA X [e, .Tuple es kk p2] (tCons (up (gm X) W t) (tCons (tTup fun _ H Q => Q (ty.map fun t => V.ty (tyS t)) H) tNil)) := pa_cons ha (pa_cons (pe_tup (pa_tys ok hn)) pa_nil) (star_cons hs)
  refine pe_wk (pe_callB call_isiT (ok.gl hgi) (ok.blt _ (List.contains_iff_mem.mp hi)) boot_isi hA (by decide) (by decide) (star_cons hs) rfl) ?_
  rintro σ H Qv ⟨δ, M, Q, Qx, rm, rs, q, w, wx⟩
  refine ⟨δ, M, _, Qx, rm, rs, q, fun v H1 ⟨d, M1, e1, rm1, a1, q1⟩ => ?_, wx⟩
  obtain ⟨b, hb, q1⟩ := res_map q1
  have sl := sizeLine_eq
  refine ⟨by rw [List.length_map]; omega, fun tp n => ?_⟩
  have en : Ext (gm X).K H1 M1 (upd H1 tp (.tup (ty.map fun t => V.ty (tyS t)))) M1 := .new n
  have fin : ∀ u, TyX X.K (upd H1 tp (.tup (ty.map fun t => V.ty (tyS t)))) v u → (∀ t' b', isTy M1 d t' = some b' → PySem.W.kitOne X.K u (.type (tyS t')) = some b') → rIsiT X.K [v, .ref tp] (upd H1 tp (.tup (ty.map fun t => V.ty (tyS t)))) Qv := fun u tu hu =>
    ⟨v, tp, _, u, _, b, rfl, upd_same, cls_tys ty, tu, isTys_any hu hb, w _ _ ⟨.bl b, M1, e1.trans en, rm1.new n, .bl b, q1.2⟩⟩
  cases ty with
  | nil => exact absurd rfl hne
  | cons ty0 tys =>
    have h0 : ∃ b0, isTy M1 d ty0 = some b0 := by
      unfold isTys at hb
      cases e : isTy M1 d ty0 with
      | none => rw [e] at hb; cases hb
      | some b0 => exact ⟨b0, rfl⟩
    obtain ⟨b0, h0⟩ := h0
    obtain ⟨u, tu, hu⟩ := isTy_ty (rm1.new n) (a1.mono en.toExt0) h0
    exact fin u tu hu

/-! ### methods -/
theorem few_plain {env : Env} {pos : Pos} {es : List Expr} (h : es.all notStar = true) (hl : es.length < 30) : ((backTo pos (starEach es env)).all (fun x => !x.1) && (backToKw pos (keywordEach [] env)).all (fun x => x.1.isSome)
      && decide (es.length + ([] : List Keyword).length + (if ([] : List Keyword).isEmpty then 0 else 1) < 30)) = true := by
  have h1 : (backTo pos (starEach es env)).all (fun x => !x.1) = true := by
    have := star_plain (env := env) (pos := pos) h
    rw [List.all_eq_not_any_not]
    simpa using this
  rw [h1]
  have h2 : decide (es.length + ([] : List Keyword).length + (if ([] : List Keyword).isEmpty then 0 else 1) < 30) = true := decide_eq_true (by simpa using hl)
  rw [h2]
  rfl
theorem tyV_of {m : Mth} {M : DM} {H : Hp} {x : V} {d : D} (rm : RM (gm X) H M) (a : Rp (gm X) H M x d) (r : rcvOk M m d) : tyV X.K (mthTy m) x H := by
  cases m with
  | join => obtain ⟨s, rfl⟩ := r; obtain ⟨rfl, _⟩ := a.inv_str; rfl
  | _ =>
    obtain ⟨p, ds, rfl, hm⟩ := r
    obtain ⟨rfl, _⟩ := a.inv_ref
    obtain ⟨xs, hx, _⟩ := rm.getL hm
    exact .inl ⟨rfl, xs, .inl (.inl hx)⟩
theorem mth_facts (m : Mth) : PlainAttrs (mthTy m) ∧ Slot (mthTy m) (mthName m) (mthId m) ∧ typeOf (.builtin (mthId m)) = pure (.type "method_descriptor") := by
  cases m with
  | append => exact ⟨F.plainAttrs_list, F.slot_list_append, F.type_list_append⟩
  | pop => exact ⟨F.plainAttrs_list, F.slot_list_pop, F.type_list_pop⟩
  | extend => exact ⟨F.plainAttrs_list, F.slot_list_extend, F.type_list_extend⟩
  | join => exact ⟨F.plainAttrs_str, F.slot_str_join, F.type_str_join⟩
/-- what a method asks of its receiver, known before the arguments come -/
theorem de_mth {m : Mth} {o e : Expr} {es : List Expr} {apos pos : Pos} {t : DTE} {u : DTA} (ok : CtxOk X W c k C) (hs : (e :: es).all notStar = true) (hl : (e :: es).length < 30) (ho : notSuper o = true) (hline : (apos.endLine == pos.line) = true)
    (h1 : DE X W o t) (h2 : DA X W (e :: es) u) :
    DE X W (.Call (.Attribute o (mthName m) apos) (e :: es) [] pos) fun δ M Qx Q => t δ M Qx fun x M1 => rcvOk M1 m x ∧ u δ M1 Qx fun ds M2 => resM (mthR M2 m x ds) Q := by
  obtain ⟨f1, f2, f3⟩ := mth_facts m
  obtain ⟨s1, s2⟩ := Bool.and_eq_true_iff.mp (show (notStar e && es.all notStar) = true from hs)
  refine pe_wk (pe_bm f1 f2 f3 (mth_any m) h1 h2 (no_super ho) (few_plain hs hl) hline (star_cons s1) (star_plain s2)) ?_
  rintro σ H Qv ⟨δ, M, Q, Qx, rm, rs, q, w, wx⟩
  refine ⟨δ, M, _, Qx, rm, rs, q, fun v H1 ⟨d, M1, e1, rm1, a1, r1, q1⟩ => ⟨tyV_of rm1 a1 r1, ?_⟩, wx⟩
  refine ⟨δ, M1, _, Qx, rm1, rs.mono e1.toExt0, q1, fun vs H2 ⟨ds, M2, l2, e2, rm2, a2, q2⟩ => ?_, fun c d H' z => wx c d H' (z.then e1)⟩
  exact ⟨M2, d, ds, Q, rm2, a1.mono e2.toExt0, a2, q2, fun v H' z => w v H' ((z.then e2).then e1)⟩
theorem de_mth0 {m : Mth} {o : Expr} {apos pos : Pos} {t : DTE} (ok : CtxOk X W c k C) (ho : notSuper o = true) (hline : (apos.endLine == pos.line) = true)
    (h1 : DE X W o t) : DE X W (.Call (.Attribute o (mthName m) apos) [] [] pos) fun δ M Qx Q => t δ M Qx fun x M1 => resM (mthR M1 m x []) Q := by
  obtain ⟨f1, f2, f3⟩ := mth_facts m
  refine pe_wk (pe_bm0 f1 f2 f3 (mth_any m) h1 (no_super ho) hline) ?_
  rintro σ H Qv ⟨δ, M, Q, Qx, rm, rs, q, w, wx⟩
  refine ⟨δ, M, _, Qx, rm, rs, q, fun v H1 ⟨d, M1, e1, rm1, a1, q1⟩ => ⟨tyV_of rm1 a1 (rcv_of q1), ?_⟩, wx⟩
  exact ⟨M1, d, [], Q, rm1, a1, .nil, q1, fun v H' z => w v H' (z.then e1)⟩

/-! ### slices -/
abbrev DTO := DS → DM → QX → (Option Int → DM → Prop) → Prop
def upP (G : Gm) (W : WX) (t : DTO) : TO := fun σ H Qv => ∃ δ M Q Qx, RM G H M ∧ RS G H M σ δ ∧ t δ M Qx Q ∧ (∀ o H', (∃ M', Ext G.K H M H' M' ∧ RM G H' M' ∧ Q o M') → Qv o H') ∧ (∀ c d H', LX G H M Qx c d H' → W c d σ H')
abbrev DO (X : Cx) (W : WX) (e : Option Expr) (t : DTO) : Prop := PO X e (upP (gm X) W t)
theorem po_wk {e : Option Expr} {t u : TO} (h : PO X e t) (w : ∀ σ H Q, u σ H Q → t σ H Q) : PO X e u := ⟨fun pins s σ H Q I q => h.run pins s σ H Q I (w σ H Q q)⟩
theorem do_none : DO X W none fun _ M _ Q => Q none M := by
  refine po_wk po_none ?_
  rintro σ H Qv ⟨δ, M, Q, Qx, rm, rs, q, w, wx⟩
  exact w none H ⟨M, .refl, rm, q⟩
theorem do_some {e : Expr} {t : DTE} (h : DE X W e t) : DO X W (some e) fun δ M Qx Q => t δ M Qx fun d M1 => intD d fun i => Q (some i) M1 := by
  refine po_wk (po_some h) ?_
  rintro σ H Qv ⟨δ, M, Q, Qx, rm, rs, q, w, wx⟩
  refine ⟨δ, M, _, Qx, rm, rs, q, fun v H1 ⟨d, M1, e1, rm1, a1, q1⟩ => ?_, wx⟩
  cases d with
  | int i =>
    obtain rfl := a1.inv_int
    exact ⟨i, rfl, w _ _ ⟨M1, e1, rm1, q1⟩⟩
  | _ => exact q1.elim
theorem de_slc {e : Expr} {lo hi : Option Expr} {p2 pos : Pos} {t : DTE} {u r : DTO} (h1 : DE X W e t) (h2 : DO X W lo u) (h3 : DO X W hi r) :
    DE X W (.Subscript e (.Slice lo hi none p2) pos) fun δ M Qx Q => t δ M Qx fun x M1 => u δ M1 Qx fun l M2 => r δ M2 Qx fun h M3 => res (slcV M3 x l h) M3 Q := by
  refine pe_wk (pe_slice sl_any h1 h2 h3) ?_
  rintro σ H Qv ⟨δ, M, Q, Qx, rm, rs, q, w, wx⟩
  refine ⟨δ, M, _, Qx, rm, rs, q, fun v H1 ⟨d, M1, e1, rm1, a1, q1⟩ => ?_, wx⟩
  refine ⟨δ, M1, _, Qx, rm1, rs.mono e1.toExt0, q1, fun l H2 ⟨M2, e2, rm2, q2⟩ => ?_, fun c d H' z => wx c d H' (z.then e1)⟩
  have e12 := e1.trans e2
  refine ⟨δ, M2, _, Qx, rm2, rs.mono e12.toExt0, q2, fun h H3 ⟨M3, e3, rm3, q3⟩ => ?_, fun c d H' z => wx c d H' (z.then e12)⟩
  exact ⟨M3, d, Q, rm3, (a1.mono e2.toExt0).mono e3.toExt0, q3, fun v H' z => w v H' ((z.then e3).then e12)⟩
theorem de_rev {m : Bool} {e : Expr} {kk : Nat} {p1 p2 p3 pos : Pos} {t : DTE} (h : DE X W e t) :
    DE X W (.Subscript e (.Slice none none (some (.UnaryOp .USub (.Constant (.int 1) kk p1) p2)) p3) pos) fun δ M Qx Q => t δ M Qx fun x M1 => revP m x M1 Q := by
  refine pe_wk (pe_fz (pe_revL h)) ?_
  rintro σ H Qv ⟨δ, M, Q, Qx, rm, rs, q, w, wx⟩
  refine ⟨δ, M, _, Qx, rm, rs, q, fun v H1 ⟨d, M1, e1, rm1, a1, q1⟩ => ?_, wx⟩
  cases d with
  | lst ds =>
    obtain ⟨a, xs, rfl, hx, z, r⟩ := a1.inv_lst
    exact ⟨a, xs, rfl, .inl hx, fun p n => lqL rm1 r.reverse (by rw [List.length_reverse]; exact z) n q1 fun v H' z => w v H' (z.then e1)⟩
  | _ => exact q1.elim
end
end Dw
set_option Elab.async false
set_option linter.all false
set_option maxRecDepth 100000
set_option maxHeartbeats 4000000
/-! Dw9: what loops walk, targets, list comprehensions. -/
namespace Dw
open PySem PySem.Spec PyProof.Rows L2

theorem two_le {x y : D} : [x, y].length ≤ sizeLine := by rw [sizeLine_eq]; show 2 ≤ 16777216; decide
/-- an iterator that yields the items ds -/
structure JOk (G : Gm) (H1 : Hp) (M1 : DM) (J : It) (ds : List D) (Gd : DM → Prop) : Prop where
  z : ds.length ≤ sizeLine
  go : ∀ H' M' i d, Ext G.K H1 M1 H' M' → RM G H' M' → Gd M' → ds[i]? = some d → J.go i H' ∧ ∀ x H2, J.yld i H' x H2 → Ext G.K H' M' H2 M' ∧ RM G H2 M' ∧ Rp G H2 M' x d
  stop : ∀ H' M' i, Ext G.K H1 M1 H' M' → RM G H' M' → Gd M' → ds.length ≤ i → J.stop i H'
abbrev DTI := DS → DM → QX → (List D → (DM → Prop) → DM → Prop) → Prop
def upI (G : Gm) (W : WX) (t : DTI) : TI := fun σ H R => ∃ δ M Q Qx, RM G H M ∧ RS G H M σ δ ∧ t δ M Qx Q ∧ (∀ J H', (∃ ds Gd M', Ext G.K H M H' M' ∧ RM G H' M' ∧ JOk G H' M' J ds Gd ∧ Q ds Gd M') → R J H') ∧ (∀ c d H', LX G H M Qx c d H' → W c d σ H')
abbrev DI (X : Cx) (W : WX) (tg e : Expr) (t : DTI) : Prop := PI X tg e (upI (gm X) W t)
theorem pi_wk {X : Cx} {tg e : Expr} {t u : TI} (h : PI X tg e t) (w : ∀ σ H Q, u σ H Q → t σ H Q) : PI X tg e u := ⟨fun pins s σ H Q I q => h.run pins s σ H Q I (w σ H Q q)⟩

theorem jok_list {G : Gm} {H : Hp} {M : DM} {a : Addr} {o : Obj} {xs : List V} {ds : List D} (s : H a = some (.frz o (.lst xs))) (z : ds.length ≤ sizeLine) (rs : Rps G H M xs ds) : JOk G H M (Itl G.K a) ds anyM where
  z := z
  go := fun H' M' i d e rm _ hd => by
    obtain ⟨v, hv, a1⟩ := rs.get hd
    have hs : SqL G.K H' a xs := .inl (.inr ⟨o, e.l _ _ _ s⟩)
    refine ⟨⟨xs, v, hs, hv⟩, fun x H2 ⟨e2, q⟩ => ?_⟩
    subst e2
    have := q xs hs
    rw [hv] at this
    cases this
    exact ⟨.refl, rm, a1.mono e.toExt0⟩
  stop := fun H' M' i e rm _ hi => ⟨xs, .inl (.inr ⟨o, e.l _ _ _ s⟩), by rw [rs.length]; exact hi⟩
theorem jok_tup {G : Gm} {H : Hp} {M : DM} {a : Addr} {xs : List V} {ds : List D} (s : SqT G.K H a xs) (z : ds.length ≤ sizeLine) (rs : Rps G H M xs ds) : JOk G H M (Itt G.K a) ds anyM where
  z := z
  go := fun H' M' i d e rm _ hd => by
    obtain ⟨v, hv, a1⟩ := rs.get hd
    have hs : SqT G.K H' a xs := e.t _ _ s
    refine ⟨⟨xs, v, hs, hv⟩, fun x H2 ⟨e2, q⟩ => ?_⟩
    subst e2
    have := q xs hs
    rw [hv] at this
    cases this
    exact ⟨.refl, rm, a1.mono e.toExt0⟩
  stop := fun H' M' i e rm _ hi => ⟨xs, e.t _ _ s, by rw [rs.length]; exact hi⟩
theorem jok_ref {G : Gm} {H : Hp} {M : DM} {a : Addr} {ds : List D} (z : ds.length ≤ sizeLine) : JOk G H M (Itl G.K a) ds (fun M' => M' a = some (.lst ds)) where
  z := z
  go := fun H' M' i d e rm hm hd => by
    obtain ⟨xs, hx, rs⟩ := rm.getL hm
    obtain ⟨v, hv, a1⟩ := rs.get hd
    have hs : SqL G.K H' a xs := .inl (.inl hx)
    refine ⟨⟨xs, v, hs, hv⟩, fun x H2 ⟨e2, q⟩ => ?_⟩
    subst e2
    have := q xs hs
    rw [hv] at this
    cases this
    exact ⟨.refl, rm, a1⟩
  stop := fun H' M' i e rm hm hi => by
    obtain ⟨xs, hx, rs⟩ := rm.getL hm
    exact ⟨xs, .inl (.inl hx), by rw [rs.length]; exact hi⟩
theorem jok_str {G : Gm} {H : Hp} {M : DM} {l : List Nat} (z : okS l) : JOk G H M (Its (mkS l)) (l.map fun c => D.str [c]) anyM where
  z := by rw [List.length_map]; exact z.z
  go := fun H' M' i d e rm _ hd => by
    rw [List.getElem?_map] at hd
    cases hc : l[i]? with
    | none => rw [hc] at hd; cases hd
    | some c =>
      rw [hc] at hd
      cases hd
      have hi : i < l.length := (List.getElem?_eq_some_iff.mp hc).1
      refine ⟨by show i < l.toArray.size; simpa using hi, fun x H2 ⟨e2, c', hc', ex⟩ => ?_⟩
      subst e2
      have hc2 : l.toArray[i]? = some c' := hc'
      rw [List.getElem?_toArray, hc] at hc2
      cases hc2
      subst ex
      have hok : okS [c] := z.sub (fun y hy => by rw [List.mem_singleton.mp hy]; exact List.mem_of_getElem? hc) (by simp only [List.length_singleton]; omega)
      exact ⟨.refl, rm, .str [c] hok⟩
  stop := fun H' M' i e rm _ hi => by
    rw [List.length_map] at hi
    show l.toArray.size ≤ i
    simpa using hi
theorem jok_rng {G : Gm} {H : Hp} {M : DM} {lo : Int} {n : Nat} (z : n ≤ sizeLine) : JOk G H M (Itr lo n) (rangeD lo n) anyM where
  z := by unfold rangeD; rw [List.length_map, List.length_range]; exact z
  go := fun H' M' i d e rm _ hd => by
    unfold rangeD at hd
    rw [List.getElem?_map] at hd
    cases hc : (List.range n)[i]? with
    | none => rw [hc] at hd; cases hd
    | some j =>
      rw [hc] at hd
      cases hd
      obtain ⟨hi, hj⟩ := List.getElem?_eq_some_iff.mp hc
      rw [List.getElem_range] at hj
      subst hj
      rw [List.length_range] at hi
      exact ⟨hi, fun x H2 ⟨e2, ex⟩ => by subst e2 ex; exact ⟨.refl, rm, .int _⟩⟩
  stop := fun H' M' i e rm _ hi => by
    unfold rangeD at hi
    rw [List.length_map, List.length_range] at hi
    exact hi
theorem enumD_get : ∀ (ds : List D) (k i : Nat), (enumD k ds)[i]? = (ds[i]?).map fun d => D.tup [.int ((k + i : Nat) : Int), d]
  | [], k, i => rfl
  | d :: ds, k, 0 => rfl
  | d :: ds, k, i + 1 => by
    show (enumD (k + 1) ds)[i]? = _
    rw [enumD_get ds (k + 1) i, List.getElem?_cons_succ, show k + 1 + i = k + (i + 1) from by omega]
theorem enumD_len : ∀ (ds : List D) (k : Nat), (enumD k ds).length = ds.length
  | [], _ => rfl
  | _ :: ds, k => by show (enumD (k + 1) ds).length + 1 = _; rw [enumD_len ds (k + 1)]; rfl
theorem jok_enum {G : Gm} {H : Hp} {M : DM} {a : Addr} {o : Obj} {xs : List V} {ds : List D} (s : H a = some (.frz o (.lst xs))) (z : ds.length ≤ sizeLine) (rs : Rps G H M xs ds) : JOk G H M (Ite G.K a) (enumD 0 ds) anyM where
  z := by rw [enumD_len]; exact z
  go := fun H' M' i d e rm _ hd => by
    rw [enumD_get] at hd
    cases hc : ds[i]? with
    | none => rw [hc] at hd; cases hd
    | some d0 =>
      rw [hc] at hd
      cases hd
      obtain ⟨v, hv, a1⟩ := rs.get hc
      have hs : SqL G.K H' a xs := .inl (.inr ⟨o, e.l _ _ _ s⟩)
      refine ⟨⟨xs, v, hs, hv⟩, fun x H2 ⟨T, y, ex, n, e2, q⟩ => ?_⟩
      subst ex e2
      have := q xs hs
      rw [hv] at this
      cases this
      refine ⟨.new n, rm.new n, .tup (.of upd_same) two_le ?_⟩
      rw [Nat.zero_add]
      exact .cons (.int _) (.cons ((a1.mono e.toExt0).mono (Ext.new n).toExt0) .nil)
  stop := fun H' M' i e rm _ hi => ⟨xs, .inl (.inr ⟨o, e.l _ _ _ s⟩), by rw [rs.length]; rw [enumD_len] at hi; exact hi⟩
theorem zipD_get : ∀ (xs ys : List D) (i : Nat) (d : D), (zipD xs ys)[i]? = some d → ∃ x y, xs[i]? = some x ∧ ys[i]? = some y ∧ d = .tup [x, y]
  | [], _, i, d, h => by simp [zipD] at h
  | _ :: _, [], i, d, h => by simp [zipD] at h
  | x :: xs, y :: ys, 0, d, h => by cases h; exact ⟨x, y, rfl, rfl, rfl⟩
  | x :: xs, y :: ys, i + 1, d, h => zipD_get xs ys i d h
theorem zipD_len : ∀ (xs ys : List D), (zipD xs ys).length = min xs.length ys.length
  | [], _ => by simp [zipD]
  | _ :: _, [] => by simp [zipD]
  | x :: xs, y :: ys => by
    show (zipD xs ys).length + 1 = _
    rw [zipD_len xs ys, List.length_cons, List.length_cons]
    omega
theorem jok_zipL {G : Gm} {H : Hp} {M : DM} {a b : Addr} {o o2 : Obj} {xs ys : List V} {ds es : List D} (s : H a = some (.frz o (.lst xs))) (s2 : H b = some (.frz o2 (.lst ys))) (z : ds.length ≤ sizeLine) (rs : Rps G H M xs ds) (rs2 : Rps G H M ys es) :
    JOk G H M (Itz G.K a b) (zipD ds es) anyM where
  z := by rw [zipD_len]; omega
  go := fun H' M' i d e rm _ hd => by
    obtain ⟨d1, d2, h1, h2, rfl⟩ := zipD_get _ _ _ _ hd
    obtain ⟨v, hv, a1⟩ := rs.get h1
    obtain ⟨u, hu, a2⟩ := rs2.get h2
    have hs : SqL G.K H' a xs := .inl (.inr ⟨o, e.l _ _ _ s⟩)
    have ht : SqL G.K H' b ys := .inl (.inr ⟨o2, e.l _ _ _ s2⟩)
    refine ⟨⟨xs, ys, v, u, hs, ht, hv, hu⟩, fun x H2 ⟨T, y1, y2, ex, n, e2, q1, q2⟩ => ?_⟩
    subst ex e2
    have k1 := q1 xs hs
    have k2 := q2 ys ht
    rw [hv] at k1
    rw [hu] at k2
    cases k1; cases k2
    exact ⟨.new n, rm.new n, .tup (.of upd_same) two_le (.cons ((a1.mono e.toExt0).mono (Ext.new n).toExt0) (.cons ((a2.mono e.toExt0).mono (Ext.new n).toExt0) .nil))⟩
  stop := fun H' M' i e rm _ hi => ⟨xs, ys, .inl (.inr ⟨o, e.l _ _ _ s⟩), .inl (.inr ⟨o2, e.l _ _ _ s2⟩), by rw [rs.length, rs2.length]; rw [zipD_len] at hi; omega⟩
theorem jok_zipT {G : Gm} {H : Hp} {M : DM} {a b : Addr} {xs ys : List V} {ds es : List D} (s : SqT G.K H a xs) (s2 : SqT G.K H b ys) (z : ds.length ≤ sizeLine) (rs : Rps G H M xs ds) (rs2 : Rps G H M ys es) :
    JOk G H M (RZ.ItzT G.K a b) (zipD ds es) anyM where
  z := by rw [zipD_len]; omega
  go := fun H' M' i d e rm _ hd => by
    obtain ⟨d1, d2, h1, h2, rfl⟩ := zipD_get _ _ _ _ hd
    obtain ⟨v, hv, a1⟩ := rs.get h1
    obtain ⟨u, hu, a2⟩ := rs2.get h2
    refine ⟨⟨xs, ys, v, u, e.t _ _ s, e.t _ _ s2, hv, hu⟩, fun x H2 ⟨T, y1, y2, ex, n, e2, q1, q2⟩ => ?_⟩
    subst ex e2
    have k1 := q1 xs (e.t _ _ s)
    have k2 := q2 ys (e.t _ _ s2)
    rw [hv] at k1
    rw [hu] at k2
    cases k1; cases k2
    exact ⟨.new n, rm.new n, .tup (.of upd_same) two_le (.cons ((a1.mono e.toExt0).mono (Ext.new n).toExt0) (.cons ((a2.mono e.toExt0).mono (Ext.new n).toExt0) .nil))⟩
  stop := fun H' M' i e rm _ hi => ⟨xs, ys, e.t _ _ s, e.t _ _ s2, by rw [rs.length, rs2.length]; rw [zipD_len] at hi; omega⟩
theorem lst_of {G : Gm} {H : Hp} {M : DM} {v : V} {ds : List D} (r : Rp G H M v (.lst ds)) : ∃ a o xs, v = .ref a ∧ H a = some (.frz o (.lst xs)) ∧ ds.length ≤ sizeLine ∧ Rps G H M xs ds := by
  cases r with
  | lst s z r => exact ⟨_, _, _, rfl, s, z, r⟩

section
variable {X : Cx} {W : WX} {c : Sc} {k : Nat} {C : Calls}
theorem di_seq {tg e : Expr} {t : DTE} (h : DE X W e t) : DI X W tg e fun δ M Qx R => t δ M Qx fun x M1 => resI (seqI M1 x) R M1 := by
  refine ⟨fun pins s σ H R I q => ?_⟩
  obtain ⟨δ, M, Q, Qx, rm, rs, q, w, wx⟩ := q
  refine thn (h.run pins s σ H (fun v H1 => ∃ d M1, Ext (gm X).K H M H1 M1 ∧ RM (gm X) H1 M1 ∧ Rp (gm X) H1 M1 v d ∧ resI (seqI M1 d) Q M1) I ⟨δ, M, _, Qx, rm, rs, q, fun v H1 z => z, wx⟩) fun v s1 ⟨x, H1, I1, r1, d, M1, e1, rm1, a1, q1⟩ => ?_
  cases d with
  | tup ds =>
    obtain ⟨a, xs, rfl, hs, z, r⟩ := a1.inv_tup
    cases r1
    obtain ⟨its, rv, p, hz⟩ := I1.tuple hs
    exact wpAny_pyIter_tuple (show s1.heap.IsTuple a its.toArray from p) (pi_one (tk := s1.toks) I1 _ (turn_tuple a _) ⟨_, Heap.get?_push_size _ rfl, rfl, rfl⟩ (w _ _ ⟨ds, anyM, M1, e1, rm1, jok_tup hs z r, q1.2⟩))
  | lst ds =>
    obtain ⟨a, o, xs, rfl, hs, z, r⟩ := lst_of a1
    cases r1
    obtain ⟨its, rv, p, hz⟩ := I1.list (.inl (.inr ⟨o, hs⟩))
    exact wpAny_pyIter_list p.isList (pi_one (tk := s1.toks) I1 _ (turn_list a _) ⟨_, Heap.get?_push_size _ rfl, rfl, rfl⟩ (w _ _ ⟨ds, anyM, M1, e1, rm1, jok_list hs z r, q1.2⟩))
  | ref a =>
    obtain ⟨rfl, mo, hm⟩ := a1.inv_ref
    cases mo with
    | lst ds =>
      simp only [seqI, hm, resI] at q1
      obtain ⟨xs, hx, r⟩ := rm1.getL hm
      cases r1
      obtain ⟨its, rv, p, hz⟩ := I1.list (.inl (.inl hx))
      obtain ⟨_, _, _, lE, z, _⟩ := rd_at I1 (.inl hx)
      exact wpAny_pyIter_list p.isList (pi_one (tk := s1.toks) I1 _ (turn_list a _) ⟨_, Heap.get?_push_size _ rfl, rfl, rfl⟩ (w _ _ ⟨ds, _, M1, e1, rm1, jok_ref (by rw [← r.length]; exact z), q1.2⟩))
    | dct _ => simp only [seqI, hm, resI] at q1
  | str l =>
    obtain ⟨rfl, z⟩ := a1.inv_str
    obtain ⟨t', rfl⟩ := r1
    have qq := w _ _ ⟨_, anyM, M1, e1, rm1, jok_str z, q1.2⟩
    cases ha : (mkS l).cps.all (· < 128)
    · exact wpAny_pyIter_wide ha (pi_one (tk := s1.toks) I1 _ (turn_str _ (mkS l) t' "str_iterator" (.inr rfl)) ⟨_, Heap.get?_push_size _ rfl, rfl, rfl⟩ qq)
    · exact wpAny_pyIter_ascii ha (pi_one (tk := s1.toks) I1 _ (turn_str _ (mkS l) t' "str_ascii_iterator" (.inl rfl)) ⟨_, Heap.get?_push_size _ rfl, rfl, rfl⟩ qq)
  | _ => exact q1.elim
theorem di_rng1 {tg e : Expr} {p pos : Pos} {t : DTE} (ok : CtxOk X W c k C) (hb : c.blts.contains "range" = true) (hg : glB c "range" = true) (hs : notStar e = true) (h : DE X W e t) :
    DI X W tg (.Call (.Name "range" p) [e] [] pos) fun δ M Qx R => t δ M Qx fun x M1 => resI (rngI (.int 0) x) R M1 := by
  refine pi_wk (pi_range1 (ok.gl hg) (ok.blt _ (List.contains_iff_mem.mp hb)) (pa_cons h pa_nil (star_cons hs)) (star_cons hs)) ?_
  rintro σ H R ⟨δ, M, Q, Qx, rm, rs, q, w, wx⟩
  refine ⟨δ, M, _, Qx, rm, rs, q, fun v H1 ⟨d, M1, e1, rm1, a1, q1⟩ => ?_, wx⟩
  cases d with
  | int j =>
    obtain rfl := a1.inv_int
    have q1 : ((-(2 ^ 62) ≤ (0 : Int) ∧ (0 : Int) < 2 ^ 62 ∧ -(2 ^ 62) ≤ j ∧ j < 2 ^ 62) ∧ (j - 0).toNat ≤ sizeLine) ∧ Q (rangeD 0 (j - 0).toNat) anyM M1 := q1
    rw [show j - 0 = j from by omega] at q1
    exact ⟨j, rfl, q1.1.1.2.2.1, q1.1.1.2.2.2, w _ _ ⟨_, anyM, M1, e1, rm1, jok_rng q1.1.2, q1.2⟩⟩
  | _ => exact q1.elim
theorem di_rng2 {tg e e2 : Expr} {p pos : Pos} {t u : DTE} (ok : CtxOk X W c k C) (hb : c.blts.contains "range" = true) (hg : glB c "range" = true) (hs : notStar e = true) (hs2 : notStar e2 = true) (h : DE X W e t) (h2 : DE X W e2 u) :
    DI X W tg (.Call (.Name "range" p) [e, e2] [] pos) fun δ M Qx R => t δ M Qx fun x M1 => u δ M1 Qx fun y M2 => resI (rngI x y) R M2 := by
  refine pi_wk (pi_range2 (ok.gl hg) (ok.blt _ (List.contains_iff_mem.mp hb)) (pa_cons h (pa_cons h2 pa_nil (star_cons hs2)) (star_cons hs)) ((star_cons hs).trans (congrArg _ (star_cons hs2))) (star_cons hs2)) ?_
  rintro σ H R ⟨δ, M, Q, Qx, rm, rs, q, w, wx⟩
  refine ⟨δ, M, _, Qx, rm, rs, q, fun v H1 ⟨d, M1, e1, rm1, a1, q1⟩ => ?_, wx⟩
  refine ⟨δ, M1, _, Qx, rm1, rs.mono e1.toExt0, q1, fun v2 H2 ⟨d2, M2, e2, rm2, a2, q2⟩ => ?_, fun c d H' z => wx c d H' (z.then e1)⟩
  cases d with
  | int i =>
    cases d2 with
    | int j =>
      obtain rfl := a1.inv_int
      obtain rfl := a2.inv_int
      exact ⟨i, j, rfl, q2.1.1, w _ _ ⟨_, anyM, M2, e1.trans e2, rm2, jok_rng q2.1.2, q2.2⟩⟩
    | _ => exact q2.elim
  | _ => cases d2 <;> exact q2.elim
theorem di_enum {e : Expr} {p pos tpos : Pos} {elts : List Expr} {kk : Nat} {t : DTE} (ok : CtxOk X W c k C) (hb : c.blts.contains "enumerate" = true) (hg : glB c "enumerate" = true) (hs : notStar e = true) (h : DE X W e t) :
    DI X W (.Tuple elts kk tpos) (.Call (.Name "enumerate" p) [e] [] pos) fun δ M Qx R => t δ M Qx fun x M1 => resI (enumI x) R M1 := by
  refine pi_wk (pi_enum (ok.gl hg) (ok.blt _ (List.contains_iff_mem.mp hb)) (pa_cons h pa_nil (star_cons hs)) (star_cons hs)) ?_
  rintro σ H R ⟨δ, M, Q, Qx, rm, rs, q, w, wx⟩
  refine ⟨δ, M, _, Qx, rm, rs, q, fun v H1 ⟨d, M1, e1, rm1, a1, q1⟩ => ?_, wx⟩
  cases d with
  | lst ds =>
    obtain ⟨a, o, xs, rfl, hs, z, r⟩ := lst_of a1
    exact ⟨a, xs, rfl, .inl (.inr ⟨o, hs⟩), w _ _ ⟨_, anyM, M1, e1, rm1, jok_enum hs z r, q1.2⟩⟩
  | _ => exact q1.elim
theorem di_zip {e e2 : Expr} {p pos tpos : Pos} {elts : List Expr} {kk : Nat} {t u : DTE} (ok : CtxOk X W c k C) (hb : c.blts.contains "zip" = true) (hg : glB c "zip" = true) (hs : notStar e = true) (hs2 : notStar e2 = true) (h : DE X W e t) (h2 : DE X W e2 u) :
    DI X W (.Tuple elts kk tpos) (.Call (.Name "zip" p) [e, e2] [] pos) fun δ M Qx R => t δ M Qx fun x M1 => u δ M1 Qx fun y M2 => resI (zipI x y) R M2 := by
  refine pi_wk (RZ.pi_zipA (ok.gl hg) (ok.blt _ (List.contains_iff_mem.mp hb)) (pa_cons h (pa_cons h2 pa_nil (star_cons hs2)) (star_cons hs)) (star_cons hs) (star_plain (es := [e2]) (by simp only [List.all_cons, List.all_nil, hs2]; rfl))) ?_
  rintro σ H R ⟨δ, M, Q, Qx, rm, rs, q, w, wx⟩
  refine ⟨δ, M, _, Qx, rm, rs, q, fun v H1 ⟨d, M1, e1, rm1, a1, q1⟩ => ?_, wx⟩
  refine ⟨δ, M1, _, Qx, rm1, rs.mono e1.toExt0, q1, fun v2 H2 ⟨d2, M2, e2, rm2, a2, q2⟩ => ?_, fun c d H' z => wx c d H' (z.then e1)⟩
  have a1 := a1.mono e2.toExt0
  cases d with
  | lst ds =>
    cases d2 with
    | lst es =>
      obtain ⟨a, o, xs, rfl, hs, z, r⟩ := lst_of a1
      obtain ⟨b, o2, ys, rfl, ht, z2, r2⟩ := lst_of a2
      exact ⟨a, b, xs, ys, rfl, .inl ⟨.inl (.inr ⟨o, hs⟩), .inl (.inr ⟨o2, ht⟩), w _ _ ⟨_, anyM, M2, e1.trans e2, rm2, jok_zipL hs ht z r r2, q2.2⟩⟩⟩
    | _ => exact q2.elim
  | tup ds =>
    cases d2 with
    | tup es =>
      obtain ⟨a, xs, rfl, hs, z, r⟩ := a1.inv_tup
      obtain ⟨b, ys, rfl, ht, z2, r2⟩ := a2.inv_tup
      exact ⟨a, b, xs, ys, rfl, .inr ⟨hs, ht, w _ _ ⟨_, anyM, M2, e1.trans e2, rm2, jok_zipT hs ht z r r2, q2.2⟩⟩⟩
    | _ => exact q2.elim
  | _ => cases d2 <;> exact q2.elim
/-! ### targets -/
mutual
def T.slots : T → List Nat
  | .var i => [i]
  | .tup ts => T.slotsL ts
def T.slotsL : List T → List Nat
  | [] => []
  | t :: ts => T.slots t ++ T.slotsL ts
end
/-- what a target's store does: the slots ns alone change -/
def upG (G : Gm) (ns : List Nat) (t : D → DS → (DS → Prop) → Prop) : TG := fun v σ H R => ∃ d δ M Q, RM G H M ∧ RS G H M σ δ ∧ Rp G H M v d ∧ t d δ Q ∧ ∀ δ' σ', RS G H M σ' δ' → Q δ' → (∀ vs, (∀ i ∈ ns, i ∈ vs) → wipe σ' vs = wipe σ vs) → R σ' H
def upGs (G : Gm) (ns : List Nat) (t : List D → DS → (DS → Prop) → Prop) : TGs := fun v σ H R => ∃ d δ M Q, RM G H M ∧ RS G H M σ δ ∧ Rps G H M v d ∧ t d δ Q ∧ ∀ δ' σ', RS G H M σ' δ' → Q δ' → (∀ vs, (∀ i ∈ ns, i ∈ vs) → wipe σ' vs = wipe σ vs) → R σ' H
theorem pg_wk {e : Expr} {t u : TG} (h : PG X e t) (w : ∀ v σ H Q, u v σ H Q → t v σ H Q) : PG X e u := ⟨fun pins s σ H D v u I r q => h.run pins s σ H D v u I r (w _ _ _ _ q)⟩
theorem pgs_wk {e : List Expr} {t u : TGs} (h : PGs X e t) (w : ∀ v σ H Q, u v σ H Q → t v σ H Q) : PGs X e u := ⟨fun pins s σ H D v u I r q => h.run pins s σ H D v u I r (w _ _ _ _ q)⟩
theorem wipe_get {σ : L2.St} {j : Nat} : ∀ {vs : List Nat}, (wipe σ vs)[j]? = if j ∈ vs ∧ j < σ.length then some none else σ[j]?
  | [] => by simp [wipe]
  | v :: vs => by
    unfold wipe
    rw [List.getElem?_set, wipe_length]
    by_cases h : v = j
    · subst h
      by_cases h2 : v < σ.length
      · rw [if_pos rfl, if_pos h2, if_pos ⟨List.mem_cons_self, h2⟩]
      · rw [if_pos rfl, if_neg h2, if_neg (fun z => h2 z.2), List.getElem?_eq_none (by omega)]
    · rw [if_neg h, wipe_get]
      have e : (j ∈ v :: vs ∧ j < σ.length) ↔ (j ∈ vs ∧ j < σ.length) := by
        rw [List.mem_cons]
        exact ⟨fun z => ⟨z.1.resolve_left (fun q => h q.symm), z.2⟩, fun z => ⟨.inr z.1, z.2⟩⟩
      by_cases h3 : j ∈ vs ∧ j < σ.length
      · rw [if_pos h3, if_pos (e.mpr h3)]
      · rw [if_neg h3, if_neg (fun z => h3 (e.mp z))]
theorem wipe_set {σ : L2.St} {i : Nat} {o : Option V} {vs : List Nat} (h : i ∈ vs) : wipe (σ.set i o) vs = wipe σ vs := by
  apply List.ext_getElem?
  intro j
  rw [wipe_get, wipe_get, List.length_set, List.getElem?_set]
  by_cases h1 : j ∈ vs ∧ j < σ.length
  · rw [if_pos h1, if_pos h1]
  · rw [if_neg h1, if_neg h1]
    by_cases h2 : i = j
    · subst h2
      have h3 : ¬ i < σ.length := fun z => h1 ⟨h, z⟩
      rw [if_pos rfl, if_neg h3, List.getElem?_eq_none (by omega)]
    · rw [if_neg h2]
theorem assign_cons {e : Expr} {es : List Expr} {env : Env} (h : notStar e = true) : assignEach (e :: es) env = (false, assign e env) :: assignEach es env := by
  cases e <;> first
    | rfl
    | cases h
theorem assign_len {env : Env} : ∀ {es : List Expr}, es.all notStar = true → (assignEach es env).length = es.length ∧ (assignEach es env).findIdx? (·.1) = none
  | [], _ => ⟨rfl, rfl⟩
  | e :: es, h => by
    obtain ⟨h1, h2⟩ := Bool.and_eq_true_iff.mp (show (notStar e && es.all notStar) = true from h)
    obtain ⟨h3, h4⟩ := assign_len (env := env) h2
    rw [assign_cons h1]
    refine ⟨by rw [List.length_cons, h3, List.length_cons], ?_⟩
    rw [List.findIdx?_cons, h4]
    rfl
def ownB (c : Sc) (x : Str) : Bool := kindIs c x .local || (kindIs c x .cell && c.fnS x)
mutual
def ckT (c : Sc) : Expr → T → Bool
  | .Name x _, .var i => slotB c i x && ownB c x
  | .Tuple es _ _, .tup ts => es.all notStar && ckTs c es ts
  | _, _ => false
def ckTs (c : Sc) : List Expr → List T → Bool
  | [], [] => true
  | e :: es, t :: ts => ckT c e t && ckTs c es ts
  | _, _ => false
end
theorem ckTs_len {c : Sc} : ∀ {es : List Expr} {ts : List T}, ckTs c es ts = true → es.length = ts.length
  | [], [], _ => rfl
  | e :: es, t :: ts, h => by
    have h := (Bool.and_eq_true_iff.mp (show (ckT c e t && ckTs c es ts) = true from h)).2
    rw [List.length_cons, List.length_cons, ckTs_len h]
  | [], _ :: _, h => by cases h
  | _ :: _, [], h => by cases h
theorem CtxOk.loc (ok : CtxOk X W c k C) {x : Str} (h : ownB c x = true) : Loc X.env.scope x ∧ (X.fn x = true ∨ X.env.scope.names.lookup x = some .local) := by
  unfold ownB at h
  rw [Bool.or_eq_true] at h
  rw [ok.sc]
  rcases h with h | h
  · exact ⟨.inl (kind_of h), .inr (kind_of h)⟩
  · rw [Bool.and_eq_true] at h
    exact ⟨.inr (kind_of h.1), .inl (ok.fn x h.2)⟩
mutual
theorem dg_ok (ok : CtxOk X W c k C) : ∀ {e : Expr} {t : T}, ckT c e t = true → PG X e (upG (gm X) t.slots (tgT t))
  | .Name x p, .var i, h => by
    obtain ⟨h1, h2⟩ := Bool.and_eq_true_iff.mp (show (slotB c i x && ownB c x) = true from h)
    obtain ⟨l1, l2⟩ := ok.loc h2
    refine pg_wk (pg_name (by rw [ok.N]; exact ok.nd) (by rw [ok.N]; exact slot_of h1) l1 l2) ?_
    rintro v σ H R ⟨d, δ, M, Q, rm, rs, a, q, w⟩
    exact w _ _ (rs.set i a) q fun vs hv => wipe_set (hv i (List.mem_singleton.mpr rfl))
  | .Tuple es kk p, .tup ts, h => by
    obtain ⟨h1, h2⟩ := Bool.and_eq_true_iff.mp (show (es.all notStar && ckTs c es ts) = true from h)
    obtain ⟨h3, h4⟩ := assign_len (env := X.env) h1
    refine pg_wk (pg_tup ok.calm (dgs_ok ok h1 h2) h3 h4) ?_
    rintro v σ H R ⟨d, δ, M, Q, rm, rs, a, q, w⟩
    cases d with
    | tup ds =>
      obtain ⟨p, xs, rfl, hs, z, r⟩ := a.inv_tup
      exact ⟨p, xs, rfl, hs, by rw [r.length, ckTs_len h2]; exact q.1, ds, δ, M, Q, rm, rs, r, q.2, w⟩
    | _ => exact q.elim
theorem dgs_ok (ok : CtxOk X W c k C) : ∀ {es : List Expr} {ts : List T}, es.all notStar = true → ckTs c es ts = true → PGs X es (upGs (gm X) (T.slotsL ts) (tgTs ts))
  | [], [], _, _ => by
    refine pgs_wk pgs_nil ?_
    rintro v σ H R ⟨d, δ, M, Q, rm, rs, a, q, w⟩
    cases d with
    | nil => exact ⟨rps_nil a, w _ _ rs q fun _ _ => rfl⟩
    | cons d ds => exact q.elim
  | e :: es, t :: ts, h0, h => by
    obtain ⟨h1, h2⟩ := Bool.and_eq_true_iff.mp (show (ckT c e t && ckTs c es ts) = true from h)
    obtain ⟨n1, n2⟩ := Bool.and_eq_true_iff.mp (show (notStar e && es.all notStar) = true from h0)
    refine pgs_wk (pgs_cons (dg_ok ok h1) (dgs_ok ok n2 h2) (by rw [assign_cons n1]; rfl)) ?_
    rintro v σ H R ⟨d, δ, M, Q, rm, rs, a, q, w⟩
    cases d with
    | nil => exact q.elim
    | cons d ds =>
      cases a with
      | cons a r =>
        refine ⟨_, _, rfl, d, δ, M, _, rm, rs, a, q, fun δ' σ' rs' q' hw => ?_⟩
        refine ⟨ds, δ', M, _, rm, rs', r, q', fun δ2 σ2 rs2 q2 hw2 => w δ2 σ2 rs2 q2 fun vs hv => ?_⟩
        rw [hw2 vs fun i hi => hv i (List.mem_append_right _ hi), hw vs fun i hi => hv i (List.mem_append_left _ hi)]
end

/-! ### list comprehensions -/
def WF : WX := fun _ _ _ _ => False
def envOf (sc : Scope) : Env := { scope := sc, locals := 0, globals := 0, cells := [] }
def Sc.blkOf (c : Sc) (scope : Scope) : Sc := { c with sc := relabel scope (envOf c.sc), fnS := fun x => scope.names.lookup x == some .cell, top := false, act := none }
theorem CtxOk.blk (ok : CtxOk X W c k C) {scope : Scope} (s : Shared) (H : Hp) (D : Addr) (cl : List (Str × Addr)) (fp : List Addr) : CtxOk (X.blk s H scope (compEnvC scope cl D X.env) fp) WF (c.blkOf scope) k C where
  N := ok.N
  nd := ok.nd
  sc := by
    show relabel scope X.env = relabel scope (envOf c.sc)
    rw [← ok.sc]
    rfl
  calm := ok.calm
  hr := ok.hr
  tk := fun u s' h => by
    obtain ⟨_, _, _, _, _, _, _, _, _, _, _, _, _, _, _, _, w⟩ := h
    exact w
  con := ok.con
  blt := ok.blt
  call := fun i q h => let ⟨f, fd, d⟩ := ok.call i q h; ⟨f, fd, ⟨d.mg, d.keep, d.binds, d.kws, d.fn⟩⟩
  fn := fun x h => h
  two := ok.two
  more := fun h => by cases h
  hd := ok.hd
  act := fun _ h => by cases h
  k2 := ok.k2
  exc := ok.exc
  exm := ok.exm
theorem wipe_rs {G : Gm} {H : Hp} {M : DM} {σ : L2.St} {δ : DS} (r : RS G H M σ δ) : ∀ vs : List Nat, RS G H M (wipe σ vs) (wipeD δ vs)
  | [] => r
  | v :: vs => by
    have ih := wipe_rs r vs
    refine ⟨by show ((wipe σ vs).set v none).length = ((wipeD δ vs).set v none).length; rw [List.length_set, List.length_set]; exact ih.len, fun i d h => ?_⟩
    have h : ((wipeD δ vs).set v none)[i]? = some (some d) := h
    rw [List.getElem?_set] at h
    by_cases hv : v = i
    · rw [if_pos hv] at h
      split at h <;> cases h
    · rw [if_neg hv] at h
      obtain ⟨x, h1, h2⟩ := ih.at_ i d h
      exact ⟨x, by show ((wipe σ vs).set v none)[i]? = _; rw [List.getElem?_set, if_neg hv]; exact h1, h2⟩
/-- a comprehension's tests -/
abbrev DTs (X : Cx) (W : WX) (es : List Expr) (t : DTT) : Prop := PTs X es (upT (gm X) W t)
/-- what a comprehension says over data, told of values -/
theorem lc_read {m : Bool} {own : List (Str × Nat)} {tt : T} {ti : DTI} {tc : DTT} {te : DTE} (ht : ∀ i ∈ tt.slots, i ∈ own.map (·.2)) :
    ∀ (σ : L2.St) (H : Hp) (Qv : VK), up (gm X) W (fun δ M Qx Q => ti δ M Qx fun ds Gd M1 => lcTurns (tgT tt) tc te Gd (wipeD δ (own.map (·.2))) (fun _ _ => False) (fun ys M2 => newL m ys M2 Q) ds [] M1) σ H Qv →
      tLc (upI (gm X) W ti) (upG (gm X) tt.slots (tgT tt)) (upT (gm X) WF tc) (up (gm X) WF te) (own.map (·.2)) σ H (FQ Qv) := by
  rintro σ H Qv ⟨δ, M, Q, Qx, rm, rs, q, w, wx⟩
  refine ⟨δ, M, _, Qx, rm, rs, q, fun J H1 ⟨ds, Gd, M1, e1, rm1, jok, q1⟩ => ?_, wx⟩
  intro D nD
  have rsw : RS (gm X) H1 M1 (wipe σ (own.map (·.2))) (wipeD δ (own.map (·.2))) := wipe_rs (rs.mono e1.toExt0) _
  refine ⟨fun i n H2 => ∃ M2 acc xs, n + i = ds.length ∧ H2 D = some (.lst xs) ∧ M2 D = none ∧ acc.length ≤ i ∧ Ext (gm X).K H1 M1 H2 M2 ∧ RM (gm X) H2 M2 ∧ Rps (gm X) H2 M2 xs acc ∧
    lcTurns (tgT tt) tc te Gd (wipeD δ (own.map (·.2))) (fun _ _ => False) (fun ys M2 => newL m ys M2 Q) (ds.drop i) acc M2, ⟨ds.length, M1, [], [], by omega, upd_same, rm1.free nD, Nat.le_refl _, .new nD, rm1.new nD, .nil, q1⟩, ?_⟩
  rintro i n H2 ⟨M2, acc, xs, hn, hD, mD, ha, e2, rm2, ra, q2⟩
  have sl := jok.z
  cases hd : ds.drop i with
  | nil =>
    rw [hd] at q2
    have hle : ds.length ≤ i := by
      have := congrArg List.length hd
      rw [List.length_drop, List.length_nil] at this
      omega
    refine .inl ⟨jok.stop H2 M2 i e2 rm2 q2.1 hle, ?_⟩
    have q3 := q2.2
    have z : acc.length ≤ sizeLine := by omega
    unfold newL at q3
    cases m with
    | true =>
      refine .inl (w _ _ ⟨.ref D, updM M2 D (.lst acc), e1.trans (e2.track nD), rm2.track mD hD ra, .ref updM_same, q3 D mD⟩)
    | false =>
      refine .inr ⟨D, _, hD, trivial, fun od => w _ _ ⟨.lst acc, M2, e1.trans (e2.setNew nD hD), rm2.setNew mD hD, .lst upd_same z (ra.mono (Ext0.set hD fun b mo h => ⟨mo, h⟩)), q3⟩⟩
  | cons d rest =>
    rw [hd] at q2
    have hi : ds[i]? = some d := by
      have := congrArg (·[0]?) hd
      simpa using this
    have hil : i < ds.length := (List.getElem?_eq_some_iff.mp hi).1
    have hrest : ds.drop (i + 1) = rest := by
      have h1 : (ds.drop i).drop 1 = rest := by rw [hd]; rfl
      rw [List.drop_drop] at h1
      exact h1
    obtain ⟨go, gy⟩ := jok.go H2 M2 i d e2 rm2 q2.1 hi
    refine .inr ⟨go, fun H' => ∃ M' acc' xs', H' D = some (.lst xs') ∧ M' D = none ∧ acc'.length ≤ i + 1 ∧ Ext (gm X).K H1 M1 H' M' ∧ RM (gm X) H' M' ∧ Rps (gm X) H' M' xs' acc' ∧
      lcTurns (tgT tt) tc te Gd (wipeD δ (own.map (·.2))) (fun _ _ => False) (fun ys M2 => newL m ys M2 Q) rest acc' M', ?_, fun x H3 hy => ?_⟩
    · rintro H' ⟨M', acc', xs', h1, h2, h3, h4, h5, h6, h7⟩
      exact ⟨n - 1, by omega, M', acc', xs', by omega, h1, h2, h3, h4, h5, h6, by rw [hrest]; exact h7⟩
    · obtain ⟨e3, rm3, ax⟩ := gy x H3 hy
      obtain ⟨hD3, mD3⟩ := e3.s D xs hD mD
      have ra3 := ra.mono e3.toExt0
      refine ⟨d, _, M2, _, rm3, (rsw.mono e2.toExt0).mono e3.toExt0, ax, q2.2, fun δ' σ' rs' q' hw => ⟨?_, ?_⟩⟩
      · rw [hw _ ht]
        apply List.ext_getElem?
        intro j
        rw [wipe_get, wipe_get, wipe_length]
        by_cases hj : j ∈ own.map (·.2) ∧ j < σ.length
        · rw [if_pos hj, if_pos hj]
        · rw [if_neg hj, if_neg hj]
      · refine ⟨δ', M2, _, _, rm3, rs', q', fun b H4 ⟨M4, e4, rm4, q4⟩ => ?_, fun c d H' ⟨_, _, _, _, _, z⟩ => z.elim⟩
        obtain ⟨hD4, mD4⟩ := e4.s D xs hD3 mD3
        have e34 := e3.trans e4
        cases b with
        | true =>
          show up (gm X) WF te σ' H4 _
          refine ⟨δ', M4, _, _, rm4, rs'.mono e4.toExt0, q4, fun y H5 ⟨dy, M5, e5, rm5, ay, q5⟩ => ?_, fun c d H' ⟨_, _, _, _, _, z⟩ => z.elim⟩
          obtain ⟨hD5, mD5⟩ := e5.s D xs hD4 mD4
          have ra5 := ((ra3.mono e4.toExt0).mono e5.toExt0)
          have est : Ext0 (gm X).K H5 M5 (upd H5 D (.lst (xs ++ [y]))) M5 := Ext0.set hD5 fun b mo h => ⟨mo, h⟩
          refine ⟨xs, hD5, by rw [ra.length]; omega, M5, acc ++ [dy], xs ++ [y], upd_same, mD5, by rw [List.length_append]; simp only [List.length_singleton]; omega, ?_, rm5.setNew mD5 hD5, (ra5.mono est).append (.cons (ay.mono est) .nil), q5⟩
          exact (e2.trans (e34.trans e5)).setNew nD hD5
        | false =>
          show ∃ M' acc' xs', _
          exact ⟨M4, acc, xs, hD4, mD4, by omega, e2.trans e34, rm4, ra3.mono e4.toExt0, q4⟩
theorem de_lc {m : Bool} {elt tg iter : Expr} {ifs : List Expr} {scope : Scope} {own : List (Str × Nat)} {pos : Pos} {tt : T} {ti : DTI} {tc : DTT} {te : DTE} (ok : CtxOk X W c k C) (hb : BlkOk c.N c.sc scope own) (hf : notSet iter = true)
    (ht : ∀ i ∈ tt.slots, i ∈ own.map (·.2)) (hT : ckT (c.blkOf scope) tg tt = true) (hi : DI X W tg iter ti)
    (hc : ∀ (s : Shared) (H : Hp) (D : Addr) (cl : List (Str × Addr)) (fp : List Addr), DTs (X.blk s H scope (compEnvC scope cl D X.env) fp) WF ifs tc)
    (he : ∀ (s : Shared) (H : Hp) (D : Addr) (cl : List (Str × Addr)) (fp : List Addr), DE (X.blk s H scope (compEnvC scope cl D X.env) fp) WF elt te) :
    DE X W (.ListComp elt [⟨tg, iter, ifs, 0⟩] scope pos) fun δ M Qx Q => ti δ M Qx fun ds Gd M1 => lcTurns (tgT tt) tc te Gd (wipeD δ (own.map (·.2))) (fun _ _ => False) (fun ys M2 => newL m ys M2 Q) ds [] M1 := by
  have hb2 : BlkOk X.N X.env.scope scope own := by rw [ok.N, ok.sc]; exact hb
  exact pe_wk (pe_fz (pe_lc (g := upG (gm X) tt.slots (tgT tt)) (tt := upT (gm X) WF tc) (te := up (gm X) WF te) ok.calm (by rw [ok.N]; exact ok.nd) hi hb2 (fun s H D cl fp => dg_ok (ok.blk s H D cl fp) hT) hc he (no_fold hf))) (lc_read ht)
end
end Dw
set_option Elab.async false
set_option linter.all false
set_option maxRecDepth 100000
set_option maxHeartbeats 4000000
/-! Dw10: statements over data. -/
namespace Dw
open PySem PySem.Spec PyProof.Rows L2

section
variable {X : Cx} {W : WX} {c : Sc} {k : Nat} {C : Calls}
abbrev DSt (X : Cx) (W : WX) (st : Stmt) (t : DTS) : Prop := PS X st (upS (gm X) W t)
abbrev DSs (X : Cx) (W : WX) (st : List Stmt) (t : DTS) : Prop := PSs X st (upS (gm X) W t)
theorem LS.then {G : Gm} {H H1 : Hp} {M M1 : DM} {Q : DS → DM → Prop} (e : Ext G.K H M H1 M1) {σ : L2.St} {H' : Hp} (h : LS G H1 M1 Q σ H') : LS G H M Q σ H' :=
  let ⟨d, M', e', r, a, q⟩ := h; ⟨d, M', e.trans e', r, a, q⟩
theorem EOk.then {G : Gm} {H H1 : Hp} {M M1 : DM} {D : Ends} {E : DEnds} {W : WX} (e : Ext G.K H M H1 M1) (o : EOk G H M D E W) : EOk G H1 M1 D E W where
  nx := fun _ _ h => o.nx _ _ (h.then e)
  rt := fun _ _ h => o.rt _ _ (h.then e)
  bk := fun _ _ h => o.bk _ _ (h.then e)
  ct := fun _ _ h => o.ct _ _ (h.then e)
  ex := fun _ _ _ _ _ _ e' => o.ex _ _ _ _ _ _ (e.trans e')
/-- what an expression within a statement may let out -/
theorem EOk.lx {G : Gm} {H : Hp} {M : DM} {D : Ends} {E : DEnds} {W : WX} {σ : L2.St} {δ : DS} (o : EOk G H M D E W) (rs : RS G H M σ δ) : ∀ c d H', LX G H M (E.ex δ) c d H' → W c d σ H' := fun c d H' ⟨e, M', e', rm', rx, q⟩ =>
  o.ex δ σ c d H' M' e' rm' (rs.mono e'.toExt0) ⟨e, rx, q⟩
/-- a statement about a value -/
theorem up_stE {t : DTE} {D : Ends} {E : DEnds} {δ : DS} {M : DM} {σ : L2.St} {H : Hp} {f : QD} {Qv : VK} (rm : RM (gm X) H M) (rs : RS (gm X) H M σ δ) (o : EOk (gm X) H M D E W) (q : t δ M (E.ex δ) f)
    (w : ∀ v H1 d M1, Ext (gm X).K H M H1 M1 → RM (gm X) H1 M1 → RS (gm X) H1 M1 σ δ → Rp (gm X) H1 M1 v d → EOk (gm X) H1 M1 D E W → f d M1 → Qv v H1) : up (gm X) W t σ H Qv :=
  ⟨δ, M, f, E.ex δ, rm, rs, q, fun v H1 ⟨d, M1, e1, rm1, a1, q1⟩ => w v H1 d M1 e1 rm1 (rs.mono e1.toExt0) a1 (o.then e1) q1, o.lx rs⟩
theorem up_stT {t : DTT} {D : Ends} {E : DEnds} {δ : DS} {M : DM} {σ : L2.St} {H : Hp} {f : Bool → DM → Prop} {Qv : Bool → Hp → Prop} (rm : RM (gm X) H M) (rs : RS (gm X) H M σ δ) (o : EOk (gm X) H M D E W) (q : t δ M (E.ex δ) f)
    (w : ∀ b H1 M1, Ext (gm X).K H M H1 M1 → RM (gm X) H1 M1 → RS (gm X) H1 M1 σ δ → EOk (gm X) H1 M1 D E W → f b M1 → Qv b H1) : upT (gm X) W t σ H Qv :=
  ⟨δ, M, f, E.ex δ, rm, rs, q, fun v H1 ⟨M1, e1, rm1, q1⟩ => w v H1 M1 e1 rm1 (rs.mono e1.toExt0) (o.then e1) q1, o.lx rs⟩
theorem nx_ok {D : Ends} {E : DEnds} {δ : DS} {M : DM} {σ : L2.St} {H : Hp} (rm : RM (gm X) H M) (rs : RS (gm X) H M σ δ) (o : EOk (gm X) H M D E W) (q : E.nx δ M) : D.nx σ H := o.nx _ _ ⟨δ, M, .refl, rm, rs, q⟩

theorem ds_nil : DSs X W [] fun E δ M => E.nx δ M := by
  refine pss_wk pss_nil ?_
  rintro D σ H ⟨δ, M, E, rm, rs, q, o⟩
  exact nx_ok rm rs o q
theorem ds_cons {st : Stmt} {sts : List Stmt} {t u : DTS} (h1 : DSt X W st t) (h2 : DSs X W sts u) : DSs X W (st :: sts) fun E δ M => t { E with nx := u E } δ M := by
  refine pss_wk (pss_cons h1 h2) ?_
  rintro D σ H ⟨δ, M, E, rm, rs, q, o⟩
  refine ⟨δ, M, _, rm, rs, q, ⟨fun σ' H' ⟨δ', M', e', rm', rs', q'⟩ => ⟨δ', M', E, rm', rs', q', o.then e'⟩, o.rt, o.bk, o.ct, o.ex⟩⟩
theorem ds_pass {p : Pos} : DSt X W (.Pass p) fun E δ M => E.nx δ M := by
  refine ps_wk ps_pass ?_
  rintro D σ H ⟨δ, M, E, rm, rs, q, o⟩
  exact nx_ok rm rs o q
theorem ds_brk {p : Pos} : DSt X W (.Break p) fun E δ M => E.bk δ M := by
  refine ps_wk ps_break ?_
  rintro D σ H ⟨δ, M, E, rm, rs, q, o⟩
  exact o.bk _ _ ⟨δ, M, .refl, rm, rs, q⟩
theorem ds_cont {p : Pos} : DSt X W (.Continue p) fun E δ M => E.ct δ M := by
  refine ps_wk ps_continue ?_
  rintro D σ H ⟨δ, M, E, rm, rs, q, o⟩
  exact o.ct _ _ ⟨δ, M, .refl, rm, rs, q⟩
theorem ds_ex {e : Expr} {p : Pos} {t : DTE} (h : DE X W e t) (hn : notComp e = true) : DSt X W (.Expr e p) fun E δ M => t δ M (E.ex δ) fun _ M1 => E.nx δ M1 := by
  refine ps_wk (ps_expr h (no_swap hn)) ?_
  rintro D σ H ⟨δ, M, E, rm, rs, q, o⟩
  exact up_stE rm rs o q fun v H1 d M1 e1 rm1 rs1 a1 o1 q1 => nx_ok rm1 rs1 o1 q1
theorem ds_ret {e : Expr} {p : Pos} {t : DTE} (h : DE X W e t) : DSt X W (.Return (some e) p) fun E δ M => t δ M (E.ex δ) E.rt := by
  refine ps_wk (ps_ret h) ?_
  rintro D σ H ⟨δ, M, E, rm, rs, q, o⟩
  exact up_stE rm rs o q fun v H1 d M1 e1 rm1 rs1 a1 o1 q1 => o1.rt _ _ ⟨d, M1, .refl, rm1, a1, q1⟩
theorem ds_retN {p : Pos} : DSt X W (.Return none p) fun E δ M => E.rt .non M := by
  refine ps_wk ps_retN ?_
  rintro D σ H ⟨δ, M, E, rm, rs, q, o⟩
  exact o.rt _ _ ⟨.non, M, .refl, rm, .non, q⟩
theorem ds_if {e : Expr} {a b : List Stmt} {p : Pos} {t : DTT} {u r : DTS} (h : DT X W e t) (h1 : DSs X W a u) (h2 : DSs X W b r) :
    DSt X W (.If e a b p) fun E δ M => t δ M (E.ex δ) fun k M1 => match k with
      | true => u E δ M1
      | false => r E δ M1 := by
  refine ps_wk (ps_if h h1 h2) ?_
  rintro D σ H ⟨δ, M, E, rm, rs, q, o⟩
  refine up_stT rm rs o q fun b H1 M1 e1 rm1 rs1 o1 q1 => ?_
  cases b with
  | true => exact ⟨δ, M1, E, rm1, rs1, q1, o1⟩
  | false => exact ⟨δ, M1, E, rm1, rs1, q1, o1⟩
/-- whether name = [..] is stored from within the comprehension -/
def swapB (c : Sc) (x : Str) (px : Pos) (scope : Scope) (pos : Pos) : Bool := (if c.sc.kind.isAnnotationScope then ScopeKind.function else c.sc.kind) == .function && kindIs c x .local && px.line == pos.line && !(scope.names.any fun (n, k) => n == x && (k == .local || k == .cell))
theorem swap_lc (ok : CtxOk X W c k C) {elt : Expr} {gens : List Comprehension} {scope : Scope} {pos : Pos} {x : Str} {px : Pos} {line : Nat} : swapsWith (.ListComp elt gens scope pos) (some (.Name x px)) line X.env = pure (swapB c x px scope pos) := by
  show (pure ((if X.env.scope.kind.isAnnotationScope then ScopeKind.function else X.env.scope.kind) == .function && X.env.scope.names.lookup x == some .local && px.line == pos.line && !(scope.names.any fun (n, k) => n == x && (k == .local || k == .cell))) : Sem Bool) = _
  rw [ok.sc]
  rfl
def gset (i : Nat) (t : DTE) : DTS := fun E δ M => t δ M (E.ex δ) fun x M1 => E.nx (δ.set i (some x)) M1
theorem up_set {i : Nat} {t : DTE} {D : Ends} {σ : L2.St} {H : Hp} (h : upS (gm X) W (gset i t) D σ H) : tAsg (up (gm X) W t) (gName i) D σ H := by
  obtain ⟨δ, M, E, rm, rs, q, o⟩ := h
  exact up_stE rm rs o q fun v H1 d M1 e1 rm1 rs1 a1 o1 q1 => nx_ok rm1 (rs1.set i a1) o1 q1
theorem ds_set {i : Nat} {x : Str} {e : Expr} {px p : Pos} {t : DTE} (ok : CtxOk X W c k C) (h1 : slotB c i x = true) (h2 : ownB c x = true) (hn : notComp e = true) (h : DE X W e t) : DSt X W (.Assign [.Name x px] e p) (gset i t) := by
  obtain ⟨l1, l2⟩ := ok.loc h2
  exact ps_wk (ps_set (by rw [ok.N]; exact ok.nd) (by rw [ok.N]; exact slot_of h1) l1 h (no_swap hn) l2) fun D σ H => up_set
theorem ds_setLcN {i : Nat} {x : Str} {px p : Pos} {t : DTE} {elt : Expr} {gens : List Comprehension} {scope : Scope} {pos : Pos} (ok : CtxOk X W c k C) (h1 : slotB c i x = true) (h2 : ownB c x = true) (hs : swapB c x px scope pos = false) (h : DE X W (.ListComp elt gens scope pos) t) :
    DSt X W (.Assign [.Name x px] (.ListComp elt gens scope pos) p) (gset i t) := by
  obtain ⟨l1, l2⟩ := ok.loc h2
  exact ps_wk (ps_set (by rw [ok.N]; exact ok.nd) (by rw [ok.N]; exact slot_of h1) l1 h (by rw [swap_lc ok, hs]) l2) fun D σ H => up_set
/-- a statement's end may lock what was made -/
def FS (N : L2.St → Hp → Prop) : L2.St → Hp → Prop := fun σ H' => N σ H' ∨ ∃ d u, H' d = some u ∧ Mut (some u) ∧ ∀ od, N σ (upd H' d (.frz od u))
theorem ps_fz {st : Stmt} {t : TS} (h : PS X st t) : PS X st (fun D σ H => t { D with nx := FS D.nx } σ H) := by
  refine ⟨fun pins s σ H D I q => thn (h.run pins s σ H _ I q) fun f s' z => ?_⟩
  cases f with
  | next =>
    obtain ⟨σ', H', I', n | ⟨d, u, hd, mu, n⟩⟩ := z
    · exact ⟨σ', H', I', n⟩
    · obtain ⟨od, I1⟩ := I'.lock hd mu
      exact ⟨σ', _, I1, n od⟩
  | _ => exact z
theorem ds_setLc {i : Nat} {x : Str} {px spos : Pos} {m : Bool} {elt tg iter : Expr} {ifs : List Expr} {scope : Scope} {own : List (Str × Nat)} {pos : Pos} {tt : T} {ti : DTI} {tc : DTT} {te : DTE} (ok : CtxOk X W c k C) (h1 : slotB c i x = true) (h2 : kindIs c x .local = true) (hs : swapB c x px scope pos = true)
    (hb : BlkOk c.N c.sc scope own) (hf : notSet iter = true) (ht : ∀ i ∈ tt.slots, i ∈ own.map (·.2)) (hT : ckT (c.blkOf scope) tg tt = true) (hi : DI X W tg iter ti)
    (hc : ∀ (s : Shared) (H : Hp) (D : Addr) (cl : List (Str × Addr)) (fp : List Addr), DTs (X.blk s H scope (compEnvC scope cl D X.env) fp) WF ifs tc)
    (he : ∀ (s : Shared) (H : Hp) (D : Addr) (cl : List (Str × Addr)) (fp : List Addr), DE (X.blk s H scope (compEnvC scope cl D X.env) fp) WF elt te) :
    DSt X W (.Assign [.Name x px] (.ListComp elt [⟨tg, iter, ifs, 0⟩] scope pos) spos) (gset i fun δ M Qx Q => ti δ M Qx fun ds Gd M1 => lcTurns (tgT tt) tc te Gd (wipeD δ (own.map (·.2))) (fun _ _ => False) (fun ys M2 => newL m ys M2 Q) ds [] M1) := by
  have hb2 : BlkOk X.N X.env.scope scope own := by rw [ok.N, ok.sc]; exact hb
  refine ps_wk (ps_fz (ps_setLc (g := upG (gm X) tt.slots (tgT tt)) (tt := upT (gm X) WF tc) (te := up (gm X) WF te) ok.calm (by rw [ok.N]; exact ok.nd) (by rw [ok.N]; exact slot_of h1) (by rw [ok.sc]; exact kind_of h2) (by rw [swap_lc ok, hs]) hi hb2
    (fun s H D cl fp => dg_ok (ok.blk s H D cl fp) hT) hc he (no_fold hf))) ?_
  rintro D σ H ⟨δ, M, E, rm, rs, q, o⟩
  exact lc_read (m := m) ht σ H (fun v H' => D.nx (σ.set i (some v)) H') (up_stE rm rs o q fun v H1 d M1 e1 rm1 rs1 a1 o1 q1 => nx_ok rm1 (rs1.set i a1) o1 q1)
/-- targets of more parts -/
theorem notComp_sole {tg e : Expr} {line : Nat} {env : Env} (hn : notComp e = true) : swapsWithSole [tg] e line env = pure false := no_swap hn
def notTupE : Expr → Bool
  | .Tuple .. => false
  | _ => true
theorem no_stores {tg e : Expr} {env : Env} (h : notTupE e = true) : swappedStores [tg] e env = pure none := by
  cases tg <;> cases e <;> first
    | rfl
    | cases h
theorem ds_asg {tg e : Expr} {tt : T} {p : Pos} {t : DTE} (ok : CtxOk X W c k C) (hT : ckT c tg tt = true) (hn : notComp e = true) (hw : swappedStores [tg] e X.env = pure none) (hs : notStar tg = true) (h : DE X W e t) :
    DSt X W (.Assign [tg] e p) fun E δ M => t δ M (E.ex δ) fun x M1 => tgT tt x δ fun δ' => E.nx δ' M1 := by
  refine ps_wk (ps_asg h (dg_ok ok hT) (notComp_sole hn) hw (by rw [assign_cons hs]; rfl)) ?_
  rintro D σ H ⟨δ, M, E, rm, rs, q, o⟩
  refine up_stE rm rs o q fun v H1 d M1 e1 rm1 rs1 a1 o1 q1 => ?_
  exact ⟨d, δ, M1, _, rm1, rs1, a1, q1, fun δ' σ' rs' q' _ => nx_ok rm1 rs' o1 q'⟩
/-- a, b = x, y: which store goes -/
def swS (sc : Scope) (ts vs : List Expr) : Option (Option (List Str)) :=
  if (!(ts.length == 2 || ts.length == 3) || vs.length != ts.length || (if sc.kind.isAnnotationScope then ScopeKind.function else sc.kind) != .function) = true then some none
  else if (vs.any fun | .Starred .. => true | _ => false) = true then some none
  else
    let line := (ts.head?.map (·.pos.line)).getD 0
    let names := ts.filterMap fun
      | .Name id pos => if sc.names.lookup id == some .local && pos.line == line then some id else none
      | _ => none
    if (names.length != ts.length || names.eraseDups.length != names.length) = true then some none
    else if vs.all (foldedForSure 8) = true then some none
    else if vs.all (constantsAlone 8) = true then none
    else some (some names)
theorem sw_chain {b1 b2 b3 b4 b5 : Bool} {U : Sem PUnit} {nm : List Str} {r : Option (List Str)}
    (h : (if b1 = true then some none else if b2 = true then some none else if b3 = true then some none else if b4 = true then some none else if b5 = true then none else some (some nm)) = some r) :
    (if b1 = true then pure none else if b2 = true then pure none else if b3 = true then pure none else if b4 = true then pure none else if b5 = true then (do let _ ← U; pure (some nm)) else pure (some nm) : Sem (Option (List Str))) = pure r := by
  cases b1 <;> cases b2 <;> cases b3 <;> cases b4 <;> cases b5 <;> simp at h <;> (try subst h) <;> rfl
theorem sw_stores {ts vs : List Expr} {k1 k2 : Nat} {p1 p2 : Pos} {env : Env} {r : Option (List Str)} (h : swS env.scope ts vs = some r) : swappedStores [.Tuple ts k1 p1] (.Tuple vs k2 p2) env = pure r := by
  unfold swS at h
  unfold swappedStores
  exact sw_chain h
theorem ds_par2 {i j : Nat} {x y : Str} {a b : Expr} {px py pt p pt2 : Pos} {kt k2 : Nat} {t : DTA} (ok : CtxOk X W c k C) (h1 : slotB c i x = true) (h2 : slotB c j y = true) (hij : i ≠ j) (l1 : kindIs c x .local = true) (l2 : kindIs c y .local = true)
    (hw : swS c.sc [.Name x px, .Name y py] [a, b] = some (some [x, y])) (h : DA X W [a, b] t) :
    DSt X W (.Assign [.Tuple [.Name x px, .Name y py] kt pt] (.Tuple [a, b] k2 pt2) p) fun E δ M => t δ M (E.ex δ) fun ds M1 => E.nx (setDs [i, j] ds δ) M1 := by
  refine ps_wk (ps_par ok.calm (by rw [ok.N]; exact ok.nd) (by rw [ok.N]; exact slot_of h1) (by rw [ok.N]; exact slot_of h2) hij (by rw [ok.sc]; exact kind_of l1) (by rw [ok.sc]; exact kind_of l2) h (sw_stores (by rw [ok.sc]; exact hw))) ?_
  rintro D σ H ⟨δ, M, E, rm, rs, q, o⟩
  refine ⟨δ, M, _, _, rm, rs, q, fun vs H1 ⟨ds, M1, ln, e1, rm1, a1, q1⟩ => ?_, o.lx rs⟩
  match ds, ln, a1, q1 with
  | [d1, d2], _, .cons r1 (.cons r2 .nil), q1 =>
    exact ⟨_, _, rfl, nx_ok rm1 (((rs.mono e1.toExt0).set i r1).set j r2) (o.then e1) q1⟩
theorem ds_par3 {i j l : Nat} {x y z : Str} {a b d : Expr} {px py pz pt p pt2 : Pos} {kt k2 : Nat} {t : DTA} (ok : CtxOk X W c k C) (h1 : slotB c i x = true) (h2 : slotB c j y = true) (h3 : slotB c l z = true) (hij : i ≠ j) (hil : i ≠ l) (hjl : j ≠ l)
    (l1 : kindIs c x .local = true) (l2 : kindIs c y .local = true) (l3 : kindIs c z .local = true) (hw : swS c.sc [.Name x px, .Name y py, .Name z pz] [a, b, d] = some (some [x, y, z])) (h : DA X W [a, b, d] t) :
    DSt X W (.Assign [.Tuple [.Name x px, .Name y py, .Name z pz] kt pt] (.Tuple [a, b, d] k2 pt2) p) fun E δ M => t δ M (E.ex δ) fun ds M1 => E.nx (setDs [i, j, l] ds δ) M1 := by
  refine ps_wk (ps_par3 ok.calm (by rw [ok.N]; exact ok.nd) (by rw [ok.N]; exact slot_of h1) (by rw [ok.N]; exact slot_of h2) (by rw [ok.N]; exact slot_of h3) hij hil hjl (by rw [ok.sc]; exact kind_of l1) (by rw [ok.sc]; exact kind_of l2) (by rw [ok.sc]; exact kind_of l3) h (sw_stores (by rw [ok.sc]; exact hw))) ?_
  rintro D σ H ⟨δ, M, E, rm, rs, q, o⟩
  refine ⟨δ, M, _, _, rm, rs, q, fun vs H1 ⟨ds, M1, ln, e1, rm1, a1, q1⟩ => ?_, o.lx rs⟩
  match ds, ln, a1, q1 with
  | [d1, d2, d3], _, .cons r1 (.cons r2 (.cons r3 .nil)), q1 =>
    exact ⟨_, _, _, rfl, nx_ok rm1 ((((rs.mono e1.toExt0).set i r1).set j r2).set l r3) (o.then e1) q1⟩
/-- name op= value -/
def augB : Bop → Bool
  | .add => true
  | .sub => true
  | _ => false
theorem iop_aug (o : Bop) (h : augB o = true) : PIp X (bopOf o) (upO (gm X) fun x y M Q => res (augR o x y) M Q) := by
  rintro pins s σ H x y v u Qv I rx ry ⟨M, d, e, Q, rm, a, b, q, w⟩
  cases o with
  | add =>
    cases d <;> cases e <;> first | exact q.elim | skip
    · obtain rfl := a.inv_int; obtain rfl := b.inv_int
      exact ip_add pins s σ H _ _ v u Qv I rx ry ⟨_, _, rfl, rfl, lq rm (.int _) q.2 w⟩
    · obtain ⟨rfl, z1⟩ := a.inv_str; obtain ⟨rfl, z2⟩ := b.inv_str
      refine iop_add_str pins s σ H _ _ v u Qv I rx ry ⟨_, _, rfl, rfl, ?_, ?_⟩
      · rw [mkS_len, mkS_len]; exact q.1
      · rw [mkS_app]
        exact lq rm (.str _ (z1.app z2 q.1)) q.2 w
  | sub =>
    cases d <;> cases e <;> first | exact q.elim | skip
    obtain rfl := a.inv_int; obtain rfl := b.inv_int
    exact ip_sub pins s σ H _ _ v u Qv I rx ry ⟨_, _, rfl, rfl, lq rm (.int _) q.2 w⟩
  | _ => cases h
theorem ds_aug {i : Nat} {x : Str} {o : Bop} {e : Expr} {px p : Pos} {t : DTE} (ok : CtxOk X W c k C) (h1 : slotB c i x = true) (h2 : ownB c x = true) (ho : augB o = true) (h : DE X W e t) :
    DSt X W (.AugAssign (.Name x px) (bopOf o) e p) fun E δ M => res ((lookD δ i).map fun d => (True, d)) M fun x M1 => t δ M1 (E.ex δ) fun y M2 => res (augR o x y) M2 fun z M3 => E.nx (δ.set i (some z)) M3 := by
  obtain ⟨l1, l2⟩ := ok.loc h2
  refine ps_wk (ps_aug (by rw [ok.N]; exact ok.nd) (by rw [ok.N]; exact slot_of h1) l1 h (iop_aug o ho) l2) ?_
  rintro D σ H ⟨δ, M, E, rm, rs, q, o⟩
  obtain ⟨d, hd, q⟩ := res_map q
  obtain ⟨v, hv, a⟩ := rs.at_ i d (look_at hd)
  refine ⟨v, hv, up_stE rm rs o q.2 fun y H1 dy M1 e1 rm1 rs1 a1 o1 q1 => ?_⟩
  exact ⟨M1, d, dy, _, rm1, a.mono e1.toExt0, a1, q1, fun v H' ⟨z, M2, e2, rm2, a2, q2⟩ => nx_ok rm2 ((rs1.mono e2.toExt0).set i a2) (o1.then e2) q2⟩
/-- o[i] = e -/
theorem ds_setI {a i e : Expr} {p p2 : Pos} {t u r : DTE} (hn : notComp e = true) (hi : notSlice i = true) (h1 : DE X W e t) (h2 : DE X W a u) (h3 : DE X W i r) :
    DSt X W (.Assign [.Subscript a i p2] e p) fun E δ M => t δ M (E.ex δ) fun v M1 => u δ M1 (E.ex δ) fun x M2 => r δ M2 (E.ex δ) fun y M3 => resM (setR M3 x y v) fun _ M4 => E.nx δ M4 := by
  have hg : PG X (.Subscript a i p2) (gSub (up (gm X) W u) (up (gm X) W r) rSetL) := pg_sub h2 h3 set_list (by
    intro v
    cases i <;> first
      | rfl
      | cases hi)
  refine ps_wk (ps_asg h1 hg (notComp_sole hn) (by cases e <;> rfl) (by rfl)) ?_
  rintro D σ H ⟨δ, M, E, rm, rs, q, o⟩
  refine up_stE rm rs o q fun v H1 d M1 e1 rm1 rs1 a1 o1 q1 => ?_
  refine up_stE rm1 rs1 o1 q1 fun v2 H2 d2 M2 e2 rm2 rs2 a2 o2 q2 => ?_
  refine up_stE rm2 rs2 o2 q2 fun v3 H3 d3 M3 e3 rm3 rs3 a3 o3 q3 => ?_
  have a2 := a2.mono e3.toExt0
  have a1 := (a1.mono e2.toExt0).mono e3.toExt0
  match d2, d3, a2, a3, q3 with
  | .ref pa, .int kk, a2, a3, q3 =>
    have q3 : resM ((lstAt M3 pa).bind fun ds => (ixD ds.length kk).map fun j => (True, .non, updM M3 pa (.lst (ds.set j d)))) (fun _ M4 => E.nx δ M4) := q3
    cases hl : lstAt M3 pa with
    | none => rw [hl] at q3; exact q3.elim
    | some ds =>
      rw [hl] at q3
      obtain ⟨j, hj, q3⟩ := resM_map (r := ixD ds.length kk) (f := fun j => (True, Dw.D.non, updM M3 pa (.lst (ds.set j d)))) q3
      replace hl := lst_at hl
      obtain ⟨rfl, _⟩ := a2.inv_ref
      obtain rfl := a3.inv_int
      obtain ⟨xs, hx, rx⟩ := rm3.getL hl
      have es := Ext.setM rm3 (ds' := ds.set j d) (ys := xs.set j v) hl
      refine ⟨pa, xs, kk, j, rfl, rfl, hx, by rw [rx.length]; exact hj, nx_ok (RM.setL rm3 hl (Rps.set a1 j rx)) (rs3.mono es.toExt0) (o3.then es) q3.2⟩
/-! ### loops -/
theorem ds_while {e : Expr} {b : List Stmt} {p : Pos} {t : DTT} {u : DTS} (hp : PassesOwn (model X.prog X.w) X.A X.env X.xe) (h : DT X W e t) (h2 : DSs X W b u) : DSt X W (.While e b [] p) fun E δ M => whlW t u E δ M := by
  refine ps_wk (ps_while hp h h2) ?_
  rintro D σ H ⟨δ, M, E, rm, rs, ⟨Wd, ⟨m0, w0⟩, turn⟩, o⟩
  refine ⟨fun m σ' H' => ∃ δ' M', Ext (gm X).K H M H' M' ∧ RM (gm X) H' M' ∧ RS (gm X) H' M' σ' δ' ∧ Wd m δ' M', ⟨m0, δ, M, .refl, rm, rs, w0⟩, ?_⟩
  rintro m σ1 H1 ⟨δ1, M1, e1, rm1, rs1, w1⟩
  refine up_stT rm1 rs1 (o.then e1) (turn m δ1 M1 w1) fun b H2 M2 e2 rm2 rs2 o2 q2 => ?_
  cases b with
  | true =>
    show ∃ N : L2.St → Hp → Prop, _
    refine ⟨fun σ' H' => ∃ δ' M', Ext (gm X).K H M H' M' ∧ RM (gm X) H' M' ∧ RS (gm X) H' M' σ' δ' ∧ ∃ m', m' < m ∧ Wd m' δ' M', ?_, ?_⟩
    · rintro σ' H' ⟨δ', M', e', rm', rs', m', hm, w'⟩
      exact ⟨m', hm, δ', M', e', rm', rs', w'⟩
    · have e12 := e1.trans e2
      refine ⟨δ1, M2, _, rm2, rs2, q2, ⟨?_, o2.rt, ?_, ?_, o2.ex⟩⟩
      · rintro σ' H' ⟨δ', M', e', rm', rs', q'⟩
        exact ⟨δ', M', e12.trans e', rm', rs', q'⟩
      · exact o2.nx
      · rintro σ' H' ⟨δ', M', e', rm', rs', q'⟩
        exact ⟨δ', M', e12.trans e', rm', rs', q'⟩
  | false => exact nx_ok rm2 rs2 o2 q2
theorem ds_for {tg it : Expr} {b : List Stmt} {p : Pos} {tt : T} {ti : DTI} {u : DTS} (ok : CtxOk X W c k C) (hp : PassesOwn (model X.prog X.w) X.A X.env X.xe) (hf : notSet it = true) (hT : ckT c tg tt = true) (hi : DI X W tg it ti) (h2 : DSs X W b u) :
    DSt X W (.For tg it b [] p) fun E δ M => ti δ M (E.ex δ) fun ds Gd M1 => forTurns (tgT tt) u Gd E ds δ M1 := by
  refine ps_wk (ps_for hp ok.calm hi (dg_ok ok hT) h2 (no_fold hf)) ?_
  rintro D σ H ⟨δ, M, E, rm, rs, q, o⟩
  refine ⟨δ, M, _, _, rm, rs, q, fun J H1 ⟨ds, Gd, M1, e1, rm1, jok, q1⟩ => ?_, o.lx rs⟩
  have o1 := o.then e1
  refine ⟨fun i n σ' H' => ∃ δ' M', n + i = ds.length ∧ Ext (gm X).K H1 M1 H' M' ∧ RM (gm X) H' M' ∧ RS (gm X) H' M' σ' δ' ∧ forTurns (tgT tt) u Gd E (ds.drop i) δ' M', ⟨ds.length, δ, M1, by omega, .refl, rm1, rs.mono e1.toExt0, q1⟩, ?_⟩
  rintro i n σ2 H2 ⟨δ2, M2, hn, e2, rm2, rs2, q2⟩
  cases hd : ds.drop i with
  | nil =>
    rw [hd] at q2
    have hle : ds.length ≤ i := by
      have := congrArg List.length hd
      rw [List.length_drop, List.length_nil] at this
      omega
    exact .inl ⟨jok.stop H2 M2 i e2 rm2 q2.1 hle, nx_ok rm2 rs2 (o1.then e2) q2.2⟩
  | cons d rest =>
    rw [hd] at q2
    have hi : ds[i]? = some d := by
      have := congrArg (·[0]?) hd
      simpa using this
    have hil : i < ds.length := (List.getElem?_eq_some_iff.mp hi).1
    have hrest : ds.drop (i + 1) = rest := by
      have h1 : (ds.drop i).drop 1 = rest := by rw [hd]; rfl
      rw [List.drop_drop] at h1
      exact h1
    obtain ⟨go, gy⟩ := jok.go H2 M2 i d e2 rm2 q2.1 hi
    refine .inr ⟨go, fun σ' H' => ∃ δ' M', Ext (gm X).K H1 M1 H' M' ∧ RM (gm X) H' M' ∧ RS (gm X) H' M' σ' δ' ∧ forTurns (tgT tt) u Gd E rest δ' M', ?_, fun x H3 hy => ?_⟩
    · rintro σ' H' ⟨δ', M', e', rm', rs', q'⟩
      exact ⟨n - 1, by omega, δ', M', by omega, e', rm', rs', by rw [hrest]; exact q'⟩
    · obtain ⟨e3, rm3, ax⟩ := gy x H3 hy
      have e13 := e2.trans e3
      refine ⟨d, δ2, M2, _, rm3, rs2.mono e3.toExt0, ax, q2.2, fun δ' σ' rs' q' _ => ?_⟩
      have o3 := o1.then e13
      refine ⟨δ', M2, _, rm3, rs', q', ⟨?_, o3.rt, o3.nx, ?_, o3.ex⟩⟩
      · rintro σ4 H4 ⟨δ4, M4, e4, rm4, rs4, q4⟩
        exact ⟨δ4, M4, e13.trans e4, rm4, rs4, q4⟩
      · rintro σ4 H4 ⟨δ4, M4, e4, rm4, rs4, q4⟩
        exact ⟨δ4, M4, e13.trans e4, rm4, rs4, q4⟩
end
end Dw
set_option Elab.async false
set_option linter.all false
set_option maxRecDepth 100000
set_option maxHeartbeats 4000000
/-! DwX4: a def called with a lambda that it calls (after HandS.Lambda's rules; the exceptions go to the slots at hand). -/
namespace Dw
open PySem PySem.Spec PyProof.Rows L2 LamX

theorem ext_N {K : PySem.W.Frag} {H H1 : Hp} {M : DM} (e : ExtN H H1) : Ext K H M H1 M where
  t := fun b xs h => by
    rcases h with (h | ⟨o, h⟩) | h
    · exact .inl (.inl (e _ _ h fun _ z => nomatch z))
    · exact .inl (.inr ⟨o, e _ _ h fun _ z => nomatch z⟩)
    · exact .inr h
  l := fun b o u h => e _ _ h fun _ z => nomatch z
  m := fun b mo h => ⟨mo, h⟩
  x := fun b fs h => e _ _ h fun _ z => nomatch z
  e := fun b φ h => e _ _ h fun _ z => nomatch z
  s := fun b xs h n => ⟨e _ _ h (fun _ z => nomatch z), n⟩
theorem rm_N {G : Gm} {H H1 : Hp} {M : DM} (r : RM G H M) (e : ExtN H H1) (t : Tabs (tabK G.K) H1) : RM G H1 M := ⟨fun a mo h => by
  have q := r.o a mo h
  cases mo with
  | lst ds =>
    obtain ⟨xs, h1, h2⟩ := q
    exact ⟨xs, e _ _ h1 (fun _ z => nomatch z), h2.mono (ext_N e).toExt0⟩
  | dct kvs =>
    obtain ⟨vs, h1, hk, h2⟩ := q
    exact ⟨vs, e _ _ h1 (fun _ z => nomatch z), hk, h2.mono (ext_N e).toExt0⟩, t⟩
def Sc.lamOf (c : Sc) (scope : Scope) : Sc := { c with sc := scope, fnS := fun _ => false, top := false, act := none }
def noPar : Arguments → Bool
  | ⟨[], [], none, [], [], none, []⟩ => true
  | _ => false
theorem noPar_eq {a : Arguments} (h : noPar a = true) : a = ⟨[], [], none, [], [], none, []⟩ := by
  unfold noPar at h
  split at h
  · rfl
  · cases h
section
variable {X : Cx} {W : WX} {c : Sc} {k : Nat} {C : Calls}
/-- the context of the lambda's body -/
theorem CtxOk.lam (ok : CtxOk X W c k C) {A : Around} {outer : List Env} {s : Shared} {H : Hp} {E : XK} {scope : Scope} {f c' : Addr} (hr : Room k (A.deeper (lamEnv X scope s.heap.objs.size f c'))) :
    CtxOk (lamCx X A outer s H E scope f c') (fun cls d _ H' => E cls d H') (c.lamOf scope) k C where
  N := ok.N
  nd := ok.nd
  sc := rfl
  calm := rfl
  hr := hr
  tk := takes_of rfl rfl rfl rfl
  con := ok.con
  blt := ok.blt
  call := fun i q h => let ⟨f, fd, d⟩ := ok.call i q h; ⟨f, fd, ⟨d.mg, d.keep, d.binds, d.kws, d.fn⟩⟩
  fn := fun x h => by cases h
  two := hr.mono ok.k2
  k2 := ok.k2
  more := fun h => by cases h
  hd := ok.hd
  act := fun _ h => by cases h
  exc := ok.exc
  exm := ok.exm
/-- x(lambda: body) -/
theorem de_lam {i : Nat} {x : Str} {n : List Str × List Nat} {params : Arguments} {body : Expr} {scope : Scope} {p lpos pos : Pos} {t : DTE} (ok : CtxOk X W c k C) (ht : c.top = true) (hi : i ∈ c.hds) (hf : c.defs[i]? = some (x, n)) (hg : glB c x = true) (hpar : noPar params = true) (hl : lamSB c.sc scope = true)
    (mono : ∀ δ, AMono fun M Qx Q => t δ M Qx Q) (hb : ∀ (A : Around) (outer : List Env) (s : Shared) (H : Hp) (E : XK) (f c' : Addr), Room k (A.deeper (lamEnv X scope s.heap.objs.size f c')) → DE (lamCx X A outer s H E scope f c') (fun cls d _ H' => E cls d H') body t) :
    DE X W (.Call (.Name x p) [.Lambda params body scope lpos] [] pos) fun δ M Qx Q => C.lam i (fun M1 Qx1 Q1 => t δ M1 Qx1 Q1) M Qx Q := by
  obtain ⟨hr, c0, P0, hcode, TB, hmT, hu⟩ := ok.more ht
  obtain ⟨g, Ng, a, pg, bg, sg, dV, kV, doc, pm, cdv, ct, oc, an, od, osl, hm, hk, lk, hcg, hbd, Sg, hNg, hva, hpl, run⟩ := ok.hd i hi _ hf
  obtain rfl := noPar_eq hpar
  have L : LamS X.env.scope scope := by rw [ok.sc]; exact lamS_by hl
  have pla := plain_of hpl
  refine ⟨fun pins s σ H Qv I h => ?_⟩
  obtain ⟨δ, M, Q, Qx, rm, rs, q, w, wx⟩ := h
  refine wpAny_Call_Name_kw (ld_glob I (ok.gl hg) hm ?_ (gl_plain hg).1)
  refine PySem.W.callWith_K (h₀ := X.base) I.ok.mod.kin hk ?_ (by rfl) (by rfl)
  show wpAny _ _ (spliced ((false, eval (.Lambda ⟨[], [], none, [], [], none, []⟩ body scope lpos) X.env) :: backTo pos (starEach [] X.env))) _ _ s
  refine Calls.spliced_cons (lam_make2 I TB hcode hmT hu rm.t rfl (L.has I.ok) fun f c' pm' ctv H1 s' I1 eN T1 hfo hfn hfr hco => Calls.spliced_nil ⟨I1.kIn, ?_⟩)
  have e1 : Ext (gm X).K H M H1 M := ext_N eN
  have rm1 : RM (gm X) H1 M := rm_N rm eN T1
  have rs1 := rs.mono e1.toExt0
  have rv : Rp (gm X) H1 M (.ref f) (.fnv f c' (X.env.qual ++ "<lambda>") σ δ) := .fnv hco rs1.to_o
  have tr := ok.tk
  have rc : codeAny (model X.prog X.w) X.A (.call (.ref g) ⟨[.ref f], []⟩) (CR (L2.CX X.prog X.w) X.stack X.prog X.w H1 s' Qv (fun cls d H' => W cls d σ H')) s' := by
    refine run_ofS (k := k + 1) (N := Ng) (ps := [a]) (us := [.ref f]) (vs := [.ref f]) lk hcg Sg hr I1.env0 (hbd s' [.ref f] I1.kIn rfl) (.cons rfl .nil) rfl fun hr' => ?_
    refine run X.A X.stack s' H1 (fun cls d H' => W cls d σ H') (fun M1 Qx1 Q1 => t δ M1 Qx1 Q1) _ (mono δ) (hr'.mono (by omega)) (fun V pn xe p1 p2 tk => ?_) f M Qx Q Qv rm1 rv q (fun u H' z => w u H' (z.then e1)) (fun c d H' z => wx c d H' (z.then e1))
    -- the lambda's call
    refine ⟨fun pinsZ sZ σZ HZ Qz IZ hz => ?_⟩
    obtain ⟨δZ, MZ, Q2, Qx2, rmZ, rsZ, qz, wz, wxz⟩ := hz
    cases hlook : lookD δZ 0 with
    | none => simp only [hlook] at qz
    | some d0 =>
      simp only [hlook] at qz
      obtain ⟨rfl, qz⟩ := qz
      obtain ⟨v0, hv0, rp0⟩ := rsZ.at_ 0 _ (look_at hlook)
      cases rp0 with
      | fnv hcz roz =>
        refine wpAny_Call_Name_kw (thn ((pe_var (pos := p1) (i := 0) hNg hva pla.1 pla.2.1).run pinsZ sZ σZ HZ (fun v H5 => v = .ref f ∧ H5 = HZ) IZ ⟨.ref f, hv0, rfl, rfl⟩) fun u s1 ⟨v5, H5, I5, r5, ev, eH⟩ => ?_)
        subst ev
        subst eH
        obtain rfl : u = Value.ref f := r5
        have of1 := I5.base.keep f _ hfo hfn hfr (fun z => nomatch (show f ∈ ([] : List Addr) from z))
        refine PySem.W.callWith_F0 ⟨_, _, _, _, of1⟩ ?_
        have un : Un (frs X.stack) [] H1 H5 s'.heap s1.heap := I5.base
        obtain ⟨⟨oc2, vs2, t2, hoc, hdc, hvc⟩, _, _⟩ := I5.hok c' _ hcz
        have rc2 : codeAny (model X.prog X.w) (X.A.deeper (envOfC x sg s'.heap.objs.size g cdv)) (.call (.ref f) ⟨[], []⟩) (CR (L2.CX X.prog X.w) (envOfC x sg s'.heap.objs.size g cdv :: X.stack) X.prog X.w H5 s1 Qz (fun cls d H' => V cls d σZ H')) s1 := by
          refine PySem.W.kla_callFunE hr'.depth of1 rfl L.co L.gen rfl ⟨c', oc2, vs2, t2, rfl, hoc, hdc, hvc⟩ ?_
          refine wpAny_pure (wpAny_newFunctionEnv (fun y hy => (L.own y hy).2) (fun y hy => absurd hy (by simp)) (fun h₁ hns hsb => ⟨I5.nolimit.fresh _ hsb, ?_⟩) L.kind)
          show codeAny _ _ (.expr body (lamEnv X scope s1.heap.objs.size f c')) _ _
          have kp : ∀ b o, s1.heap.get? b = some o → h₁.get? b = some o := fun b o e => hsb.extBut b o (Nat.ne_of_lt (Heap.lt_size e)) (Heap.get?_push_of_some _ e)
          have J := lam_start2 (f := f) (c' := c') (E := fun cls d H' => V cls d σZ H') (tk := s1.toks + ([] : List (Str × Value)).length) I1 L I5.env0 hr'.hd un hns kp
          refine PySem.W.kla_codeExpr (wpAny_mono ((hb _ _ s1 H5 _ f c' (hr'.deeper _)).run [] _ σ H5 Qz J ⟨δ, MZ, Q2, Qx2, rmZ, RS.of_o roz, qz, wz, fun c d H' z => wxz c d H' z⟩) (fun v s' hq => ?_) fun e s' hq => hq)
          obtain ⟨w', H', J', rv2, q2⟩ := hq
          exact ⟨w', H', J'.os, J'.bare, J'.base, J'.hok, rv2, q2⟩
        refine wpAny_call (codeAny_mono rc2 fun r s6 hq => ?_)
        cases r with
        | error e => exact passAt tk σZ pinsZ H5 s1 e s6 I5 hq
        | ok fl => cases fl <;> first
          | exact I5.after hq
          | exact False.elim hq
  refine wpAny_call (codeAny_mono rc fun r s2 hq => ?_)
  cases r with
  | error e => exact passAt tr σ pins H1 s' e s2 I1 hq
  | ok fl => cases fl <;> first
    | exact I1.after hq
    | exact False.elim hq
end
end Dw
set_option Elab.async false
set_option linter.all false
set_option maxRecDepth 100000
set_option maxHeartbeats 4000000
/-! DwT1: small sets of tuples of texts and ints (at most four), and sorted of them. -/
namespace Dw
open PySem PySem.Spec PyProof.Rows L2

section
variable {P : Program} {w : World} {A : Around} {E : Value → Shared → Prop} {s : Shared}
/-- the tuple at b holds the keys ks -/
abbrev KT (P : Program) (w : World) (h : Heap) (ks : List Key) (b : Addr) : Prop := IsTupleKey (mixKind P w) h ks b
abbrev kh (P : Program) (w : World) (ks : List Key) : Int := tupleKeyHash (mixKind P w) ks
/-- a small value: an int or a text -/
def SmallV (v : Value) : Prop := (∃ i t, v = .int i t) ∨ ∃ x t, v = .str x t
theorem kt_small {ks : List Key} {vs : List Value} (h : ItemsAre (mixKind P w) ks vs) : ∀ v ∈ vs, SmallV v := by
  induction h with
  | nil => exact fun v z => nomatch z
  | cons h1 _ ih =>
    intro v hv
    rcases List.mem_cons.mp hv with rfl | hv
    · rcases keyIs_shape h1 with ⟨i, t, _, e⟩ | ⟨x, t, _, e⟩
      · exact .inl ⟨i, t, e⟩
      · exact .inr ⟨x, t, e⟩
    · exact ih v hv
theorem small_noclass (n : Nat) {v : Value} (h : SmallV v) : ofAClassStatement n v = pure false := by
  rcases h with ⟨i, t, rfl⟩ | ⟨x, t, rfl⟩ <;> cases n <;> rfl
theorem small_hash (n : Nat) {v : Value} (h : SmallV v) : ∃ b, hashByValue n v = pure b := by
  rcases h with ⟨i, t, rfl⟩ | ⟨x, t, rfl⟩ <;> cases n <;> exact ⟨_, rfl⟩
theorem kt_noclass {ks : List Key} {b : Addr} {Q : Bool → Shared → Prop} (hk : KT P w s.heap ks b) (hq : Q false s) : wpAny (model P w) A (ofAClassStatement 8 (.ref b)) Q E s := by
  have ty := hk.typeIs
  obtain ⟨o, items, n, ho, _, hd, hi⟩ := hk
  unfold ofAClassStatement
  refine wpAny_bind (wpAny_typeOf ty ?_)
  dsimp only
  simp only [show (("tuple" : String) == "tuple") = true by decide, if_true, Bool.not_true, Bool.false_eq_true, if_false]
  try refine wpAny_bind (wpAny_pure ?_)
  try simp only [Bool.not_true, Bool.false_eq_true, if_false]
  refine wpAny_bind (m := seqItems? (.ref b)) (wpAny_seqItems ho hd ?_)
  dsimp only
  refine wpAny_bind ?_
  rw [← Array.forIn_toList]
  refine wpAny_forIn_list _ (fun rest r s' => r.1 = none ∧ s' = s ∧ ∀ v ∈ rest, SmallV v) _ ?_ ?_ _ _ ⟨rfl, rfl, kt_small hi⟩
  · rintro v rest r s' ⟨h1, rfl, all⟩
    rw [small_noclass _ (all v List.mem_cons_self)]
    refine wpAny_bind (wpAny_pure ?_)
    simp only [Bool.false_eq_true, if_false]
    exact wpAny_pure ⟨rfl, rfl, fun u hu => all u (List.mem_cons_of_mem _ hu)⟩
  · rintro ⟨r1, r2⟩ s' ⟨h1, rfl, _⟩
    cases (show r1 = none from h1)
    exact wpAny_pure hq
theorem kt_hash {ks : List Key} {b : Addr} {Q : Bool → Shared → Prop} (hk : KT P w s.heap ks b) (hq : ∀ r, Q r s) : wpAny (model P w) A (hashByValue 8 (.ref b)) Q E s := by
  have ty := hk.typeIs
  obtain ⟨o, items, n, ho, _, hd, hi⟩ := hk
  unfold hashByValue
  refine wpAny_bind (wpAny_specialOf ty F.slot_tuple_hash.lookup ?_)
  refine wpAny_bind (m := seqItems? (.ref b)) (wpAny_seqItems ho hd ?_)
  refine wpAny_bind ?_
  show wpAny _ _ (forIn items _ _) _ _ s
  rw [← Array.forIn_toList]
  refine wpAny_forIn_list _ (fun rest r s' => (r.1 = none ∨ r.1 = some false) ∧ s' = s ∧ ∀ v ∈ rest, SmallV v) _ ?_ ?_ _ _ ⟨.inl rfl, rfl, kt_small hi⟩
  · rintro v rest r s' ⟨h1, rfl, all⟩
    obtain ⟨c, e⟩ := small_hash 7 (all v List.mem_cons_self)
    rw [e]
    refine wpAny_bind (wpAny_pure ?_)
    have all' : ∀ u ∈ rest, SmallV u := fun u hu => all u (List.mem_cons_of_mem _ hu)
    cases c with
    | true =>
      simp only [Bool.not_true, Bool.false_eq_true, if_false]
      exact wpAny_pure ⟨.inl rfl, rfl, all'⟩
    | false =>
      simp only [Bool.not_false, if_true]
      exact wpAny_pure (wpAny_pure (hq _))
  · rintro ⟨r1, r2⟩ s' ⟨h1, rfl, _⟩
    rcases (show r1 = none ∨ r1 = some false from h1) with rfl | rfl
    · exact wpAny_pure (hq _)
    · exact wpAny_pure (hq _)
/-- no program's text is seen in a search among such tuples -/
theorem kt_seen {ks : List Key} {b : Addr} {ys : List Value} {Q : Bool → Shared → Prop} (hk : KT P w s.heap ks b) (hy : ∀ y ∈ ys, ∃ js c, y = .ref c ∧ KT P w s.heap js c) (hq : Q false s) : wpAny (model P w) A (searchCouldBeSeen (.ref b) ys) Q E s := by
  unfold searchCouldBeSeen
  refine wpAny_bind ?_
  refine wpAny_forIn_list _ (fun rest r s' => r.1 = none ∧ s' = s ∧ ∀ y ∈ rest, ∃ js c, y = .ref c ∧ KT P w s.heap js c) _ ?_ ?_ _ _ ⟨rfl, rfl, hy⟩
  · rintro y rest r s' ⟨_, rfl, all⟩
    obtain ⟨js, c, rfl, hc⟩ := all y List.mem_cons_self
    have all' : ∀ u ∈ rest, ∃ js c, u = Value.ref c ∧ KT P w s'.heap js c := fun u hu => all u (List.mem_cons_of_mem _ hu)
    dsimp only
    cases e : (b == c || (carriedByValue (.ref b) && carriedByValue (.ref c))) with
    | true => exact wp_if_pos rfl (wpAny_pure ⟨rfl, rfl, all'⟩)
    | false =>
      refine wp_if_neg (by simp) (wpAny_bind (wpAny_eqIsQuiet_tuple hk ?_))
      simp only [Bool.not_true, Bool.false_eq_true, if_false]
      refine wpAny_bind (wpAny_eqIsQuiet_tuple hc ?_)
      simp only [Bool.not_true, Bool.false_eq_true, if_false]
      refine wpAny_bind (kt_noclass hk ?_)
      simp only [Bool.false_eq_true, if_false]
      refine wpAny_bind (kt_noclass hc ?_)
      simp only [Bool.false_eq_true, if_false]
      exact wpAny_pure ⟨rfl, rfl, all'⟩
  · rintro ⟨r1, r2⟩ s' ⟨h1, rfl, _⟩
    cases (show r1 = none from h1)
    exact wpAny_pure hq

/-! ### a small set -/
def rows4 (P : Program) (w : World) (L : List (Addr × List Key)) : List (Int × Value) := L.map fun q => (kh P w q.2, .ref q.1)
def hs4 (P : Program) (w : World) (L : List (Addr × List Key)) : List Int := L.map fun q => kh P w q.2
structure Set4 (P : Program) (w : World) (h : Heap) (a : Addr) (L : List (Addr × List Key)) (es : Array (Int × Value)) (ep : Nat) (t : SetTable) : Prop where
  ob : ∃ o, h.get? a = some o ∧ o.ExactSet ∧ o.data = .set es ep t
  rows : es.toList = rows4 P w L
  tab : TabOk t (hs4 P w L)
  nd : (L.map (·.2)).Nodup
  tup : ∀ q ∈ L, KT P w h q.2 q.1
  led : w.params.followText "set-order" = true ∨ t.led = true
  room : L.length * 5 < t.mask * 3
  few : L.length < 64
variable {a : Addr} {L : List (Addr × List Key)} {es : Array (Int × Value)} {ep : Nat} {t : SetTable}
theorem Set4.size (R : Set4 P w s.heap a L es ep t) : es.size = L.length := by
  have e := congrArg List.length R.rows
  simpa [rows4] using e
theorem Set4.places (R : Set4 P w s.heap a L es ep t) : t.place.toList.length = L.length := by
  have e := R.tab.sz
  simpa [hs4] using e
theorem Set4.fits (R : Set4 P w s.heap a L es ep t) : t.fits es.size = true := by
  have e1 := R.places
  have e2 := R.size
  have e3 := R.room
  rw [Array.length_toList] at e1
  unfold SetTable.fits SetTable.fill
  rw [R.tab.dm, Bool.and_eq_true, beq_iff_eq, decide_eq_true_eq]
  exact ⟨by omega, by show t.place.size + 0 ≤ t.mask; omega⟩
theorem Set4.entry (R : Set4 P w s.heap a L es ep t) {i : Nat} {q : Addr × List Key} (e : L[i]? = some q) : es[i]? = some (kh P w q.2, .ref q.1) := by
  rw [← Array.getElem?_toList, R.rows, rows4, List.getElem?_map, e]
  rfl
theorem Set4.sound (R : Set4 P w s.heap a L es ep t) : ¬t.gaveWay = true := by
  unfold SetTable.gaveWay
  rw [mask_odd R.tab.mok]
  decide
/-- the c-th place of a search -/
abbrev pb (m : Nat) (h : Int) (c : Nat) : SetTable.Probe := nth m (runAt m (SetTable.bits h % (m + 1)) (SetTable.bits h)) c
theorem pb_none (m : Nat) (h : Int) (c : Nat) : (pb m h c).dummy = none := by
  have all : ∀ (c : Nat) (p : SetTable.Probe), p.dummy = none → (nth m p c).dummy = none := fun c => by
    induction c with
    | zero => exact fun _ e => e
    | succ c ih =>
      intro p e
      exact ih (adv m p) (by unfold adv; split <;> exact e)
  exact all c _ rfl
theorem pb_add (m : Nat) (h : Int) (c q : Nat) : nth m (pb m h c) q = pb m h (c + q) := (nth_add m c _ q).symm
/-- the search that adding makes: from its c-th place on; K is the first empty one -/
theorem search4 (R : Set4 P w s.heap a L es ep t) {x : Addr} {ks : List Key} (hx : KT P w s.heap ks x) (hu : A.units < cLine) {K : Nat} (hf : K < 10 * SetTable.turns t.mask)
    (hK : way t.mask (kh P w ks) K ∉ t.place.toList) (hb : ∀ c, c < K → way t.mask (kh P w ks) c ∈ t.place.toList) {Q : SetFound → Shared → Prop}
    (yes : ks ∈ L.map (·.2) → Q (.there none) s) (no : ks ∉ L.map (·.2) → Q (.free (way t.mask (kh P w ks) K) false) s) :
    ∀ (f c : Nat) (st : Option SetTable.Probe), st.getD (t.probeStart (kh P w ks)) = pb t.mask (kh P w ks) c → c ≤ K → K - c < f →
      (∀ (i : Nat) q, L[i]? = some q → q.2 = ks → ∃ d, c ≤ d ∧ d < K ∧ t.place.toList[i]? = some (way t.mask (kh P w ks) d)) →
      wpAny (model P w) A (setSearchFrom a (.ref x) (kh P w ks) true f st) Q E s
  | 0, _, _, _, _, z, _ => absurd z (Nat.not_lt_zero _)
  | f + 1, c, st, hst, hc, hcf, ahead => by
    obtain ⟨o, ho, _, hd⟩ := R.ob
    rw [setSearchFrom_succ]
    refine wpAny_bind (wpAny_setState_of ho hd R.fits ?_)
    dsimp only
    refine wp_if_neg R.sound ?_
    try refine wpAny_bind (wpAny_pure ?_)
    have ej : ∀ q, (nth t.mask (pb t.mask (kh P w ks) c) q).j = way t.mask (kh P w ks) (c + q) := fun q => congrArg SetTable.Probe.j (pb_add ..)
    have eK : c + (K - c) = K := by omega
    have hat : ∀ (i : Nat) q, L[i]? = some q → (fun i => (es[i]?.map (·.1)).getD 0) i = kh P w q.2 := fun i q e => by
      show (es[i]?.map (·.1)).getD 0 = _
      rw [R.entry e]
      rfl
    rcases go_spec t R.tab.ris R.tab.dm (fun i => (es[i]?.map (·.1)).getD 0) (kh P w ks) (10 * SetTable.turns t.mask) (K - c) (pb t.mask (kh P w ks) c) (pb_none ..) (by omega)
      (fun q hq => by rw [ej]; exact hb _ (by omega)) (by rw [ej, eK]; exact hK) with ⟨q, i, hq, hi, _, none_before, hp⟩ | ⟨none_at_all, hp⟩
    · rw [ej] at hi
      have hp' : t.probe (fun i => (es[i]?.map (·.1)).getD 0) (kh P w ks) (st.getD (t.probeStart (kh P w ks))) = some (.candidate (way t.mask (kh P w ks) (c + q)) i (pb t.mask (kh P w ks) (c + (q + 1)))) := by
        rw [hst, ← ej, ← pb_add]
        exact hp
      rw [hp']
      dsimp only
      have hil : i < L.length := by
        have := (List.getElem?_eq_some_iff.mp hi).1
        rw [R.places] at this
        exact this
      obtain ⟨r, hr⟩ : ∃ r, L[i]? = some r := ⟨_, List.getElem?_eq_getElem hil⟩
      have hm : r ∈ L := List.mem_of_getElem? hr
      have more : wpAny (model P w) A (searchRest a (.ref x) (kh P w ks) true f es t (way t.mask (kh P w ks) (c + q)) i (pb t.mask (kh P w ks) (c + (q + 1)))) Q E s := by
        unfold searchRest
        rw [R.entry hr]
        dsimp only
        refine wpAny_bind (wpAny_holding (wpAny_eqBool_tuple hu (R.tup r hm) hx ?_))
        refine wpAny_bind (wpAny_setState_of ho hd R.fits ?_)
        dsimp only
        by_cases same : r.2 = ks
        · exact wp_if_pos (by simp [same]) (wpAny_pure (yes (List.mem_map.mpr ⟨r, hm, same⟩)))
        · refine wp_if_neg (by simp [same]) ?_
          try refine wpAny_bind (wpAny_pure ?_)
          rw [sameMem]
          dsimp only
          have live : t.slot (way t.mask (kh P w ks) (c + q)) = .live i := slot_live R.tab.ris hi
          simp only [if_true, live, R.entry hr]
          refine wpAny_bind (wpAny_isSame_ref_self (wpAny_bind (wpAny_pure ?_)))
          simp only [if_true]
          refine wp_if_neg (by simp [same]) (search4 R hx hu hf hK hb yes no f (c + (q + 1)) _ rfl (by omega) (by omega) fun i0 q0 h0 k0 => ?_)
          obtain ⟨d, d1, d2, d3⟩ := ahead i0 q0 h0 k0
          refine ⟨d, Nat.lt_of_not_le fun hle => ?_, d2, d3⟩
          have hk0 : (fun i => (es[i]?.map (·.1)).getD 0) i0 = kh P w ks := (hat i0 q0 h0).trans (congrArg (kh P w) k0)
          rcases Nat.lt_or_eq_of_le (show d ≤ c + q by omega) with lt | rfl
          · exact none_before (d - c) i0 (by omega) (by rw [ej, show c + (d - c) = d by omega]; exact d3) hk0
          · have live0 := slot_live R.tab.ris d3
            rw [live] at live0
            cases live0
            rw [hr] at h0
            cases h0
            exact same k0
      cases hl : t.led with
      | true =>
        refine wp_if_neg (by simp) ?_
        try refine wpAny_bind (wpAny_pure ?_)
        exact more
      | false =>
        refine wp_if_pos (by simp) (wpAny_bind (kt_seen hx (fun y hy => ?_) ?_))
        · obtain ⟨e, he, rfl⟩ := List.mem_map.mp hy
          have he2 : e ∈ es.toList := by
            have : e ∈ es ∧ e.1 = kh P w ks := by simpa using he
            simpa using this.1
          rw [R.rows] at he2
          obtain ⟨r2, hr2, rfl⟩ := List.mem_map.mp he2
          exact ⟨_, _, rfl, R.tup r2 hr2⟩
        · refine wp_if_neg (by decide) ?_
          try refine wpAny_bind (wpAny_pure ?_)
          exact more
    · have hp' : t.probe (fun i => (es[i]?.map (·.1)).getD 0) (kh P w ks) (st.getD (t.probeStart (kh P w ks))) = some (.empty (way t.mask (kh P w ks) K) none) := by
        have e2 := ej (K - c)
        rw [eK] at e2
        rw [hst, ← e2]
        exact hp
      rw [hp']
      dsimp only
      refine wpAny_pure (no fun hm => ?_)
      obtain ⟨q0, hq0, k0⟩ := List.mem_map.mp hm
      obtain ⟨i0, h0⟩ := List.mem_iff_getElem?.mp hq0
      obtain ⟨d, d1, d2, d3⟩ := ahead i0 q0 h0 k0
      exact none_at_all (d - c) i0 (by omega) (by rw [ej, show c + (d - c) = d by omega]; exact d3) ((hat i0 q0 h0).trans (congrArg (kh P w) k0))
theorem search4_at (R : Set4 P w s.heap a L es ep t) {x : Addr} {ks : List Key} (hx : KT P w s.heap ks x) (hu : A.units < cLine) {Q : SetFound → Shared → Prop}
    (yes : ks ∈ L.map (·.2) → Q (.there none) s)
    (no : ∀ K, ks ∉ L.map (·.2) → way t.mask (kh P w ks) K ∉ t.place.toList → (∀ c, c < K → way t.mask (kh P w ks) c ∈ t.place.toList) → Q (.free (way t.mask (kh P w ks) K) false) s) :
    wpAny (model P w) A (setSearch a (.ref x) (kh P w ks) true) Q E s := by
  have e1 := R.room
  obtain ⟨K, hf, hK, hb⟩ := R.tab.first (by rw [hs4, List.length_map]; omega) (kh P w ks)
  have big : K < 100000 := by
    have : SetTable.turns t.mask ≤ 1000 := by
      unfold SetTable.turns
      rcases R.tab.mok with e | e | e <;> rw [e] <;> decide
    omega
  unfold setSearch
  refine search4 R hx hu hf hK hb yes (fun n => no K n hK hb) 100000 0 none rfl (Nat.zero_le _) (by omega) fun i q e k0 => ?_
  have hi : (hs4 P w L)[i]? = some (kh P w ks) := by rw [hs4, List.getElem?_map, e, ← k0]; rfl
  have hil : i < t.place.toList.length := by
    rw [R.places]
    exact (List.getElem?_eq_some_iff.mp e).1
  obtain ⟨d, d1, d2⟩ := R.tab.before hK hi (List.getElem?_eq_getElem hil)
  exact ⟨d, Nat.zero_le _, d1, by rw [List.getElem?_eq_getElem hil, d2]⟩
theorem tab_dull {t : SetTable} {hs : List Int} (T : TabOk t hs) (r : Bool) : TabOk (if r = true then t else { t with plain := false }) hs := by
  cases r with
  | true => exact T
  | false => exact ⟨T.ris, T.dm, T.sz, T.mok, T.bd, T.reach⟩
theorem kt_stays {h h' : Heap} {ks : List Key} {b : Addr} {o : Obj} (hk : KT P w h ks b) (ho : h.get? a = some o) (hd : o.data = .set es ep t) (hs : Heap.SameBut a h h') : KT P w h' ks b := by
  obtain ⟨o', items, n, ho', r⟩ := hk
  have ne : b ≠ a := fun e => by
    subst e
    rw [ho] at ho'
    cases ho'
    rw [hd] at r
    exact nomatch r.2.1
  exact ⟨o', items, n, (hs.2 b ne).trans ho', r⟩
theorem order4 (L : List (Addr × List Key)) (es : Array (Int × Value)) (order : Array Nat) (hr : es.toList = rows4 P w L) (hp : order.toList.Perm (List.range L.length)) :
    ∃ L2, (order.filterMap (es[·]?)).toList = rows4 P w L2 ∧ L2.Perm L ∧ hs4 P w L2 = order.toList.map fun i => (es.map (·.1)).getD i 0 := by
  have hsz : es.size = L.length := by
    have h := congrArg List.length hr
    simpa [rows4] using h
  have ent : ∀ i (h : i < L.length), es[i]? = some (kh P w (L[i]).2, Value.ref (L[i]).1) := fun i h => by
    rw [← Array.getElem?_toList, hr, rows4, List.getElem?_map, List.getElem?_eq_getElem h]
    rfl
  have key : ∀ l : List Nat, (∀ i ∈ l, i < L.length) → ∃ L2 : List (Addr × List Key), l.filterMap (fun i => es[i]?) = rows4 P w L2 ∧ L2 = l.filterMap (fun i => L[i]?) ∧ hs4 P w L2 = l.map fun i => (es.map (·.1)).getD i 0 := by
    intro l
    induction l with
    | nil => exact fun _ => ⟨[], rfl, rfl, rfl⟩
    | cons i l ih =>
      intro hl
      have hi := hl i List.mem_cons_self
      obtain ⟨L2, e1, e2, e3⟩ := ih fun j hj => hl j (List.mem_cons_of_mem _ hj)
      have e4 : (es.map (·.1)).getD i 0 = kh P w (L[i]).2 := by
        have e5 : (es.map (·.1))[i]? = some (kh P w (L[i]).2) := by rw [Array.getElem?_map, ent i hi]; rfl
        simp [Array.getD_eq_getD_getElem?, e5]
      refine ⟨L[i] :: L2, ?_, ?_, ?_⟩
      · rw [List.filterMap_cons_some (ent i hi), e1]
        rfl
      · rw [List.filterMap_cons_some (List.getElem?_eq_getElem hi), e2]
      · rw [List.map_cons, ← e3, e4]
        rfl
  obtain ⟨L2, e1, e2, e3⟩ := key order.toList fun i hi => List.mem_range.mp (hp.mem_iff.mp hi)
  refine ⟨L2, by simpa using e1, ?_, e3⟩
  have h1 : L2.Perm ((List.range L.length).filterMap fun i => L[i]?) := by
    rw [e2]
    exact hp.filterMap _
  have key2 : ∀ n, n ≤ L.length → (List.range n).filterMap (fun i => L[i]?) = L.take n := by
    intro n
    induction n with
    | zero => exact fun _ => rfl
    | succ n ih =>
      intro hn
      have lt : n < L.length := hn
      rw [List.range_succ, List.filterMap_append, ih (Nat.le_of_lt lt), List.take_succ, List.getElem?_eq_getElem lt, List.filterMap_cons_some (List.getElem?_eq_getElem lt)]
      rfl
  rw [key2 L.length (Nat.le_refl _), List.take_length] at h1
  exact h1
/-- the table laid anew, larger -/
theorem relay4 {o : Obj} (ho : s.heap.get? a = some o) (hex : o.ExactSet) (hd : o.data = .set es ep t) (rows : es.toList = rows4 P w L) (hsz : t.place.size = es.size) (hdm : t.dummies = #[]) (hfl : es.size ≤ t.mask)
    (nd : (L.map (·.2)).Nodup) (tup : ∀ q ∈ L, KT P w s.heap q.2 q.1) (ld : w.params.followText "set-order" = true ∨ t.led = true) (few : L.length < 64) {wanted M : Nat}
    (hw : SetTable.sizeAbove wanted - 1 = M) (hM : MaskOk M) (hw2 : SetTable.sizeAbove wanted ≤ 128) (hn : L.length * 5 < M * 3) {Q : Unit → Shared → Prop}
    (hQ : ∀ h' L' es' ep' t', Heap.SameBut a s.heap h' → Set4 P w h' a L' es' ep' t' → L'.Perm L → Q () { s with heap := h' }) : wpAny (model P w) A (setRelay a wanted) Q E s := by
  have hsl : es.size = L.length := by
    have h := congrArg List.length rows
    simpa [rows4] using h
  have hfits : t.fits es.size = true := by
    unfold SetTable.fits SetTable.fill
    rw [hdm, Bool.and_eq_true, beq_iff_eq, decide_eq_true_eq]
    show t.place.size = es.size ∧ t.place.size + 0 ≤ t.mask
    omega
  obtain ⟨t', order, e, hp, T, em, el, ep', ed⟩ := relaid_ok t (hs := es.map (·.1)) (wanted := wanted) hw hM (by rw [Array.size_map, hsl]; omega)
  rw [Array.size_map, hsl] at hp
  obtain ⟨L2, r1, r2, r3⟩ := order4 L es order rows hp
  rw [← r3] at T
  have hs2 : (order.filterMap (es[·]?)).size = es.size := by
    have h := congrArg List.length r1
    rw [rows4, Array.length_toList, List.length_map, r2.length_eq] at h
    rw [h, hsl]
  rw [setRelay_eq]
  refine wpAny_bind (wpAny_setState_of ho hd hfits ?_)
  dsimp only
  refine wp_if_neg (by rw [sizeLine_eq]; omega) ?_
  try refine wpAny_bind (wpAny_pure ?_)
  rw [e]
  dsimp only
  refine wpAny_bind ?_
  refine wp_if_neg (by rw [hs2]; simp) ?_
  try refine wpAny_bind (wpAny_pure ?_)
  refine wpAny_pure ?_
  dsimp only
  refine wpAny_storeSet_of ho hd ?_ (by rw [hs2, hsl, sizeLine_eq]; omega)
  have sb : Heap.SameBut a s.heap (s.heap.update a (Obj.putSet (order.filterMap (es[·]?)) t')) := Heap.SameBut.update ..
  refine hQ _ L2 (order.filterMap (es[·]?)) (ep + 1) t' sb ?_ r2
  refine ⟨⟨_, store_at ho hd, ⟨hex.1, hex.2.1, hex.2.2⟩, rfl⟩, r1, T, (r2.map (·.2)).nodup_iff.mpr nd, fun q hq => kt_stays (tup q (r2.mem_iff.mp hq)) ho hd sb, by rw [el]; exact ld, ?_, by rw [r2.length_eq]; exact few⟩
  rw [r2.length_eq, em]
  exact hn
/-- one more; there is room for it -/
theorem add4 (R : Set4 P w s.heap a L es ep t) {x : Addr} {ks : List Key} (hx : KT P w s.heap ks x) (hu : A.units < cLine) (few : L.length + 1 < 64) {Q : Bool → Shared → Prop}
    (hQ : ∀ b h' L' es' ep' t', Heap.SameBut a s.heap h' → Set4 P w h' a L' es' ep' t' → (ks ∈ L.map (·.2) → L' = L) → (ks ∉ L.map (·.2) → L'.Perm ((x, ks) :: L)) → Q b { s with heap := h' }) :
    wpAny (model P w) A (setAddHashed a (.ref x) (kh P w ks)) Q E s := by
  obtain ⟨o, ho, hex, hd⟩ := R.ob
  unfold setAddHashed
  refine wpAny_holding ?_
  rw [show (100000 : Nat) = 99999 + 1 from rfl, setAddHashedIn_succ]
  refine wpAny_bind (wpAny_setState_of ho hd R.fits ?_)
  dsimp only
  refine wp_if_neg (by simp [byScan, Value.scannable]) ?_
  try refine wpAny_bind (wpAny_pure ?_)
  refine wpAny_bind (search4_at R hx hu (fun hm => ?_) fun K hm hK hb => ?_)
  · dsimp only
    exact wpAny_pure (hQ false s.heap L es ep t (Heap.SameBut.refl a s.heap) R (fun _ => rfl) fun z => absurd hm z)
  dsimp only
  refine wpAny_bind (wpAny_setState_of ho hd R.fits ?_)
  dsimp only
  obtain ⟨q1, q2, q3, q4, q5, q6, q7, q8, q9⟩ := R.tab.put hK hb
  have hlen : (hs4 P w L).length = L.length := by simp [hs4]
  generalize hput : t.put (way t.mask (kh P w ks) K) = pt at q1 q3 q4 q5 q6 q7 q8 q9 ⊢
  obtain ⟨t1, p⟩ := pt
  dsimp only at q1 q3 q4 q5 q6 q7 q8 q9 ⊢
  subst q1
  have tail : ∀ r : Bool, wpAny (model P w) A (do
      storeSet a (SetTable.insertAt es (SetTable.below t.place (way t.mask (kh P w ks) K)) (kh P w ks, .ref x)) (if r = true then t1 else { t1 with plain := false })
      if !false && (if r = true then t1 else { t1 with plain := false }).tooFull then setRelay a (SetTable.grown (es.size + 1))
      return true) Q E s := by
    intro r
    have T2 := tab_dull q3 r
    have m2 : (if r = true then t1 else { t1 with plain := false }).mask = t.mask := by cases r <;> exact q4
    have l2 : w.params.followText "set-order" = true ∨ (if r = true then t1 else { t1 with plain := false }).led = true := by
      rcases R.led with z | z
      · exact .inl z
      · exact .inr (by cases r <;> exact q5.trans z)
    have f2 : (if r = true then t1 else { t1 with plain := false }).fill = L.length + 1 := by cases r <;> exact q9.trans (congrArg (· + 1) hlen)
    generalize (if r = true then t1 else { t1 with plain := false }) = t2 at T2 m2 l2 f2 ⊢
    have pm : (L.take (SetTable.below t.place (way t.mask (kh P w ks) K)) ++ (x, ks) :: L.drop (SetTable.below t.place (way t.mask (kh P w ks) K))).Perm ((x, ks) :: L) := put_perm L _ _
    have rows : (SetTable.insertAt es (SetTable.below t.place (way t.mask (kh P w ks) K)) (kh P w ks, Value.ref x)).toList = rows4 P w (L.take (SetTable.below t.place (way t.mask (kh P w ks) K)) ++ (x, ks) :: L.drop (SetTable.below t.place (way t.mask (kh P w ks) K))) := by
      rw [SetTable.toList_insertAt, R.rows, rows4, rows4, List.map_append, List.map_cons, List.map_take, List.map_drop]
    have ehs : (hs4 P w L).take (SetTable.below t.place (way t.mask (kh P w ks) K)) ++ kh P w ks :: (hs4 P w L).drop (SetTable.below t.place (way t.mask (kh P w ks) K)) = hs4 P w (L.take (SetTable.below t.place (way t.mask (kh P w ks) K)) ++ (x, ks) :: L.drop (SetTable.below t.place (way t.mask (kh P w ks) K))) := by
      rw [hs4, hs4, List.map_append, List.map_cons, List.map_take, List.map_drop]
    rw [ehs] at T2
    generalize L.take (SetTable.below t.place (way t.mask (kh P w ks) K)) ++ (x, ks) :: L.drop (SetTable.below t.place (way t.mask (kh P w ks) K)) = L1 at pm rows T2
    generalize SetTable.insertAt es (SetTable.below t.place (way t.mask (kh P w ks) K)) (kh P w ks, Value.ref x) = es1 at rows ⊢
    have z1 : es1.size = L.length + 1 := by
      have e := congrArg List.length rows
      rw [rows4, List.length_map, pm.length_eq, Array.length_toList, List.length_cons] at e
      exact e
    refine wpAny_bind (wpAny_storeSet_of ho hd ?_ (by rw [z1, sizeLine_eq]; omega))
    have sb : Heap.SameBut a s.heap (s.heap.update a (Obj.putSet es1 t2)) := Heap.SameBut.update ..
    have ho1 := store_at (es' := es1) (t' := t2) ho hd
    generalize s.heap.update a (Obj.putSet es1 t2) = h1 at sb ho1 ⊢
    have nd1 := (pm.map (·.2)).nodup_iff.mpr (List.nodup_cons.mpr ⟨hm, R.nd⟩)
    have len1 : L1.length = L.length + 1 := by rw [pm.length_eq, List.length_cons]
    have tup1 : ∀ q ∈ L1, KT P w h1 q.2 q.1 := fun q hq => by
      rcases List.mem_cons.mp (pm.mem_iff.mp hq) with rfl | hq
      · exact kt_stays hx ho hd sb
      · exact kt_stays (R.tup q hq) ho hd sb
    have rm := R.room
    have esz := R.size
    by_cases hf : t2.tooFull = true
    · first
        | (refine wpAny_bind ?_; refine wp_if_pos (by simp [hf]) ?_)
        | (refine wp_if_pos (by simp [hf]) ?_; refine wpAny_bind ?_)
      have hfull : (L.length + 1) * 5 ≥ t2.mask * 3 := by
        have h := hf
        unfold SetTable.tooFull at h
        rw [decide_eq_true_eq, f2] at h
        exact h
      rw [esz]
      have hsz1 : t2.place.size = es1.size := by
        have h := T2.sz
        rw [hs4, List.length_map, len1] at h
        rw [h, z1]
      have cases2 : (t.mask = 7 ∧ L.length = 4) ∨ (t.mask = 31 ∧ L.length = 18) := by
        rcases R.tab.mok with e | e | e
        · left; rw [m2, e] at hfull; rw [e] at rm; exact ⟨e, by omega⟩
        · right; rw [m2, e] at hfull; rw [e] at rm; exact ⟨e, by omega⟩
        · exfalso; rw [m2, e] at hfull; omega
      have go : ∀ M, SetTable.sizeAbove (SetTable.grown (L.length + 1)) - 1 = M → MaskOk M → SetTable.sizeAbove (SetTable.grown (L.length + 1)) ≤ 128 → (L.length + 1) * 5 < M * 3 →
          wpAny (model P w) A (setRelay a (SetTable.grown (L.length + 1))) (fun _ s' => wpAny (model P w) A (pure true) Q E s') E { s with heap := h1 } := fun M h1' h2' h3' h4' => by
        refine relay4 (s := { s with heap := h1 }) ho1 ⟨hex.1, hex.2.1, hex.2.2⟩ rfl rows hsz1 T2.dm (by rw [z1, m2]; rcases cases2 with ⟨e, e2⟩ | ⟨e, e2⟩ <;> omega) nd1 tup1 l2 (by rw [len1]; exact few) h1' h2' h3' (by rw [len1]; exact h4') ?_
        intro h2 L2 es2 ep2 t3 sb2 R2 pm2
        exact wpAny_pure (hQ true h2 L2 es2 ep2 t3 (sb.trans sb2) R2 (fun z => absurd z hm) fun _ => pm2.trans pm)
      rcases cases2 with ⟨_, e2⟩ | ⟨_, e2⟩
      · exact go 31 (by rw [e2, size_20]) (.inr (.inl rfl)) (by rw [e2, size_20]; decide) (by omega)
      · exact go 127 (by rw [e2, size_76]) (.inr (.inr rfl)) (by rw [e2, size_76]; decide) (by omega)
    · first
        | refine wp_if_neg (by simp [hf]) ?_
        | (refine wpAny_bind ?_; refine wp_if_neg (by simp [hf]) ?_; refine wpAny_pure ?_)
      refine wpAny_pure (hQ true h1 L1 es1 (ep + 1) t2 sb ⟨⟨_, ho1, ⟨hex.1, hex.2.1, hex.2.2⟩, rfl⟩, rows, T2, nd1, tup1, l2, ?_, by rw [len1]; exact few⟩ (fun z => absurd z hm) fun _ => pm)
      have h := hf
      unfold SetTable.tooFull at h
      rw [decide_eq_true_eq, f2] at h
      rw [len1]
      omega
  cases hp : t1.plain with
  | true =>
    simp only [if_true]
    refine wpAny_bind (kt_hash hx fun r => ?_)
    exact tail r
  | false =>
    simp only [Bool.false_eq_true, if_false]
    refine wpAny_bind (wpAny_pure ?_)
    exact tail true
/-! ### set(xs) -/
/-- what the set has of the first i items -/
structure Got4 (its : List (Addr × List Key)) (i : Nat) (L : List (Addr × List Key)) : Prop where
  sub : ∀ q ∈ L, q ∈ its.take i
  all : ∀ q ∈ its.take i, q.2 ∈ L.map (·.2)
  len : L.length ≤ i
theorem take_succ' {α : Type} {l : List α} {i : Nat} {x : α} (e : l[i]? = some x) : l.take (i + 1) = l.take i ++ [x] := by
  rw [List.take_succ, e]
  rfl
theorem Got4.next {its L L' : List (Addr × List Key)} {i : Nat} {q : Addr × List Key} (g : Got4 its i L) (e : its[i]? = some q) (c1 : q.2 ∈ L.map (·.2) → L' = L) (c2 : q.2 ∉ L.map (·.2) → L'.Perm (q :: L)) : Got4 its (i + 1) L' := by
  rcases Classical.em (q.2 ∈ L.map (·.2)) with c | c
  · rw [c1 c]
    refine ⟨fun r hr => ?_, fun r hr => ?_, Nat.le_succ_of_le g.len⟩
    · rw [take_succ' e]
      exact List.mem_append_left _ (g.sub r hr)
    · rw [take_succ' e] at hr
      rcases List.mem_append.mp hr with z | z
      · exact g.all r z
      · rw [List.mem_singleton.mp z]
        exact c
  · have pm := c2 c
    refine ⟨fun r hr => ?_, fun r hr => ?_, by rw [pm.length_eq]; exact Nat.succ_le_succ g.len⟩
    · rw [take_succ' e]
      rcases List.mem_cons.mp (pm.mem_iff.mp hr) with rfl | z
      · simp
      · exact List.mem_append_left _ (g.sub r z)
    · rw [(pm.map (·.2)).mem_iff]
      rw [take_succ' e] at hr
      rcases List.mem_append.mp hr with z | z
      · exact List.mem_cons_of_mem _ (g.all r z)
      · rw [List.mem_singleton.mp z]
        simp
theorem kt_keep {h h' : Heap} {ks : List Key} {b : Addr} (hk : KT P w h ks b) (k : ∀ c o, h.get? c = some o → h'.get? c = some o) : KT P w h' ks b :=
  let ⟨o, items, n, ho, r⟩ := hk
  ⟨o, items, n, k b o ho, r⟩
theorem Set4.keep {h h' : Heap} (R : Set4 P w h a L es ep t) (ha : ∀ o, h.get? a = some o → h'.get? a = some o) (ht : ∀ q ∈ L, KT P w h' q.2 q.1) : Set4 P w h' a L es ep t :=
  let ⟨o, ho, r⟩ := R.ob
  ⟨⟨o, ha o ho, r⟩, R.rows, R.tab, R.nd, ht, R.led, R.room, R.few⟩
abbrev newSetO (w : World) : Obj := { cls := .type "set", dict := none, data := .set #[] 0 (.fresh 0 0 (!w.params.followText "set-order")) }
theorem set4_new {h : Heap} (ho : h.get? a = some (newSetO w)) : Set4 P w h a [] #[] 0 (.fresh 0 0 (!w.params.followText "set-order")) where
  ob := ⟨_, ho, ⟨rfl, rfl, rfl⟩, rfl⟩
  rows := rfl
  tab := ⟨List.Pairwise.nil, rfl, rfl, .inl rfl, (fun _ z => nomatch z), fun _ _ _ z => by simp [hs4] at z⟩
  nd := List.nodup_nil
  tup := fun _ z => nomatch z
  led := by
    show _ ∨ (!w.params.followText "set-order") = true
    cases w.params.followText "set-order" <;> simp
  room := by show 0 * 5 < 7 * 3; decide
  few := by decide
/-- the loop that puts the items in -/
theorem update4 {I : Addr} {fp wr : List Addr} {G : Array GenState → Array GenState → Prop} {n : Nat} {Pv : Nat → Value → Prop} {St : Nat → Shared → Prop} {R : Result → Shared → Prop}
    (W : WalksS P w A.in1 I fp wr G n Pv St) (S : Addr) (hSf : S ∉ fp) (its : List (Addr × List Key)) (hn : n = its.length) (few : its.length < 63) (hv : ∀ i v, Pv i v → ∃ q, its[i]? = some q ∧ v = .ref q.1)
    (h0 : Heap) (hk : ∀ q ∈ its, KT P w h0 q.2 q.1) (hS0 : h0.get? S = none) (hw0 : ∀ b ∈ wr, h0.get? b = none) (hu : A.in1.units < cLine) :
    ∀ (k i : Nat) (s : Shared), n - i = k → i ≤ n → St i s → (∀ b o, h0.get? b = some o → s.heap.get? b = some o) → (∃ L es ep t, Set4 P w s.heap S L es ep t ∧ Got4 its i L) →
      (∀ s' L es ep t, Moved (S :: wr) G s s' → Set4 P w s'.heap S L es ep t → Got4 its n L → (∀ b o, h0.get? b = some o → s'.heap.get? b = some o) → R (.ok (.ret .none)) s') →
      codeAny (model P w) A (.builtin "set.update.loop" ⟨[.ref S, .ref I], []⟩) R s := by
  have nw : S ∉ wr := fun z => hSf (W.sub _ z)
  have sub : ∀ b ∈ wr, b ∈ S :: wr := fun _ z => List.mem_cons_of_mem _ z
  have stay : ∀ {s s' : Shared}, Moved wr G s s' → (∀ b o, h0.get? b = some o → s.heap.get? b = some o) → ∀ b o, h0.get? b = some o → s'.heap.get? b = some o := fun m k b o e =>
    m.heap b o (fun z => by rw [hw0 b z] at e; cases e) (k b o e)
  intro k
  induction k with
  | zero =>
    rintro i s hk' hi hst hkp ⟨L, es, ep, t, hS, g⟩ hR
    obtain rfl : i = n := by omega
    refine codeAny_builtin F.entry_set_update_loop ?_
    rw [Around.under_plainId F.plain_set_update_loop _]
    refine wpAny_bind (m := pyNext (.ref I)) (W.done s _ _ hst fun s' m => ?_)
    have hkp' := stay m hkp
    refine wpAny_pure (hR s' L es ep t (m.mono sub) (hS.keep (fun o e => m.heap S o nw e) fun q hq => kt_keep (hk q (List.mem_of_mem_take (g.sub q hq))) hkp') g hkp')
  | succ k ih =>
    rintro i s hk' hi hst hkp ⟨L, es, ep, t, hS, g⟩ hR
    have lt : i < n := by omega
    refine codeAny_builtin F.entry_set_update_loop ?_
    rw [Around.under_plainId F.plain_set_update_loop _]
    refine wpAny_bind (m := pyNext (.ref I)) (W.item i s _ _ lt hst fun v s' hP hst' m => ?_)
    obtain ⟨q, hq, rfl⟩ := hv i v hP
    have hkp' := stay m hkp
    have hS' : Set4 P w s'.heap S L es ep t := hS.keep (fun o e => m.heap S o nw e) fun r hr => kt_keep (hk r (List.mem_of_mem_take (g.sub r hr))) hkp'
    have hx : KT P w s'.heap q.2 q.1 := kt_keep (hk q (List.mem_of_getElem? hq)) hkp'
    refine wpAny_bind (m := holding [Value.ref q.1] (setAdd S (.ref q.1))) (wpAny_holding ?_)
    unfold setAdd
    refine wpAny_holding (wpAny_bind (wpAny_pyHash_tuple hu hx ?_))
    refine add4 (s := { s' with toks := s'.toks + (q.2.length + 1) }) hS' hx hu (by have := g.len; omega) fun b h' L' es' ep' t' sb hS2 c1 c2 => ?_
    have kp2 : ∀ b o, h0.get? b = some o → h'.get? b = some o := fun b o e => (sb.2 b (fun z => by rw [z, hS0] at e; cases e)).trans (hkp' b o e)
    refine wpAny_pure ⟨plainId_quiet F.plain_set_update_loop _, ih (i + 1) _ (by omega) lt (W.frame _ s' _ _ hst' (Nat.le_add_right _ _) fun b hb o e => ?_) kp2 ⟨L', es', ep', t', hS2, g.next hq c1 c2⟩ fun s2 L2 es2 ep2 t2 m2 hS3 g3 kp3 => ?_⟩
    · exact (sb.2 b (fun z => hSf (z ▸ hb))).trans e
    · refine hR s2 L2 es2 ep2 t2 (Moved.trans W.gtrans ((m.mono sub).then_heap (Nat.le_add_right _ _) fun b o hb e => ?_) m2) hS3 g3 kp3
      exact (sb.2 b (fun z => hb (by rw [z]; exact List.mem_cons_self))).trans e
/-- set(xs): a list of at most four tuples -/
theorem call_set4 {T : String} (hT : T = "list" ∨ T = "tuple") {l : Addr} {items : Array Value} (its : List (Addr × List Key)) {Q : Value → Shared → Prop} (hh : A.handled = none) (hl : ∃ o, s.heap.get? l = some o ∧ o.cls = .type T ∧ ∃ n, o.data = .seq items n) (hit : items.toList = its.map fun q => Value.ref q.1)
    (hk : ∀ q ∈ its, KT P w s.heap q.2 q.1) (few : its.length < 63) (hu : A.units + 3 < cLine)
    (hQ : ∀ (h' : Heap) (tk : Nat) L es ep t, Set4 P w h' s.heap.objs.size L es ep t → Got4 its its.length L → (∀ b o, s.heap.get? b = some o → h'.get? b = some o) → Q (.ref s.heap.objs.size) { s with heap := h', toks := tk }) :
    wpAny (model P w) A (call (.type "set") [.ref l]) Q E s := by
  have isz : items.size = its.length := by
    have e := congrArg List.length hit
    simpa using e
  obtain ⟨c, tl, hmro⟩ := F.called_set.mro
  have f1 := F.called_set.made
  have f2 := F.called_set.sub
  have f3 := F.called_set.notType
  have f4 := F.called_set.canCreate
  have f5 := F.typeCall_set_1 (.ref l)
  refine wpAny_call (codeAny_of_tree ?_)
  show wpAny _ _ (callAny (.type "set") _) _ _ s
  refine wpAny_pure ⟨Code.quiet_builtin _ (by decide +kernel), codeAny_builtin F.entry_type_call ?_⟩
  rw [Around.under_plain (weight_type_call_type "set" [.ref l] []) rfl]
  repeat (any_goals (first | assumption | wp_step))
  refine codeAny_mono (code_set_led1 (.ref l) (E := E) (Q₁ := fun ob s1 => ob = .ref s.heap.objs.size ∧ s1 = { s with heap := s.heap.push (newSetO w) }) ⟨rfl, rfl⟩) fun r s1 hr => ?_
  match r, hr with
  | .error e, hr => exact hr
  | .ok (.ret ob), hr =>
    obtain ⟨rfl, rfl⟩ := hr
    have g1 : (s.heap.push (newSetO w)).get? s.heap.objs.size = some (newSetO w) := Heap.get?_push_size _ rfl
    have ty : Shared.TypeIs { s with heap := s.heap.push (newSetO w) } (.ref s.heap.objs.size) "set" := ⟨_, g1, rfl⟩
    have f6 := F.called_set.init.lookup
    have f7 := F.called_set.init.bind (.ref s.heap.objs.size)
    repeat (any_goals (first | assumption | wp_step))
    refine codeAny_mono (codeAny_call_builtin (R := wants (fun r s2 => r = .none ∧ ∃ h' tk L es ep t, s2 = { s with heap := h', toks := tk } ∧ Set4 P w h' s.heap.objs.size L es ep t ∧ Got4 its its.length L ∧ (∀ b o, s.heap.get? b = some o → h'.get? b = some o)) E) F.called_set.init.plain F.entry_set_init (check_set_init_1 ty ?_)) fun r2 s2 hr2 => ?_
    · obtain ⟨⟨cl, di, da, sl⟩, hol, hcl, nl, hdl⟩ := hl
      simp only at hcl hdl
      subst hcl
      subst hdl
      have g2 : (s.heap.push (newSetO w)).get? l = some { cls := .type T, dict := di, data := .seq items nl, slots := sl } := Heap.get?_push_of_some _ hol
      have f8 : isSubtype (.type T) (.type "set") = pure false := by rcases hT with rfl | rfl; exact F.sub_list_set; exact F.sub_tuple_set
      have f9 : isSubtype (.type T) (.type "frozenset") = pure false := by rcases hT with rfl | rfl; exact F.sub_list_frozenset; exact F.sub_tuple_frozenset
      have f10 : (Value.type T == Value.type "dict") = false := by rcases hT with rfl | rfl <;> decide
      unfold Builtin.«set.__init__» noKeywords Builtin.Frozenset.updateFrom
      generalize hPI : pyIter = PI
      wp_walk
      subst hPI
      have lt : l < s.heap.objs.size := Heap.lt_size hol
      have sz1 : (s.heap.push (newSetO w)).objs.size = s.heap.objs.size + 1 := Heap.size_push ..
      have gone : ∀ b, s.heap.objs.size ≤ b → s.heap.get? b = none := fun b hb => by
        cases e : s.heap.get? b with
        | none => rfl
        | some o => exact absurd (Heap.lt_size e) (Nat.not_lt.mpr hb)
      have hval : ∀ (i : Nat) (v : Value), items[i]? = some v → ∃ q, its[i]? = some q ∧ v = .ref q.1 := fun i v e => by
        have e2 : items.toList[i]? = some v := by rw [Array.getElem?_toList]; exact e
        rw [hit, List.getElem?_map] at e2
        cases e3 : its[i]? with
        | none => rw [e3] at e2; cases e2
        | some q => rw [e3] at e2; exact ⟨q, rfl, (Option.some.inj e2).symm⟩
      rcases hT with rfl | rfl
      · have hl1 : (s.heap.push (newSetO w)).IsList l items := ⟨_, g2, rfl, nl, rfl⟩
        refine wpAny_pyIter_list hl1 (wpAny_bind (wpAny_runValue ?_))
        refine update4 ((Walks.list (by simp [hh]) _ l (by rw [sz1]; exact Nat.ne_of_lt (Nat.lt_succ_of_lt lt)) items).toS) s.heap.objs.size (by rw [sz1]; simp only [List.mem_cons, List.not_mem_nil, or_false, not_or]; exact ⟨Nat.ne_of_lt (Nat.lt_succ_self _), Nat.ne_of_gt lt⟩) its isz few hval s.heap hk (gone _ (Nat.le_refl _))
          (fun b hb => gone b (by rw [List.mem_singleton.mp hb, sz1]; omega)) hu (items.size - 0) 0 _ (by omega) (Nat.zero_le _)
          ⟨⟨_, Heap.get?_push_size _ rfl, rfl, rfl⟩, hl1.push _⟩ (fun b o e => Heap.get?_push_of_some _ (Heap.get?_push_of_some _ e)) ⟨[], #[], 0, _, set4_new (Heap.get?_push_of_some _ g1), ⟨(fun _ z => nomatch z), (fun _ z => by simp at z), Nat.le_refl _⟩⟩ ?_
        rintro ⟨h', g2', d', tk', os'⟩ L es ep t m hS g kp
        have eg : g2' = s.gens := m.gens
        have ed : d' = s.drawn := m.drawn
        have eo : os' = s.os := m.os
        subst eg
        subst ed
        subst eo
        rw [isz] at g
        exact wpAny_pure (wpAny_pure ⟨rfl, h', tk', L, es, ep, t, rfl, hS, g, kp⟩)
      · have hl1 : (s.heap.push (newSetO w)).IsTuple l items := ⟨_, g2, rfl, nl, rfl⟩
        refine wpAny_pyIter_tuple hl1 (wpAny_bind (wpAny_runValue ?_))
        refine update4 ((Walks.tuple (by simp [hh]) _ l (by rw [sz1]; exact Nat.ne_of_lt (Nat.lt_succ_of_lt lt)) items).toS) s.heap.objs.size (by rw [sz1]; simp only [List.mem_cons, List.not_mem_nil, or_false, not_or]; exact ⟨Nat.ne_of_lt (Nat.lt_succ_self _), Nat.ne_of_gt lt⟩) its isz few hval s.heap hk (gone _ (Nat.le_refl _))
          (fun b hb => gone b (by rw [List.mem_singleton.mp hb, sz1]; omega)) hu (items.size - 0) 0 _ (by omega) (Nat.zero_le _)
          ⟨⟨_, Heap.get?_push_size _ rfl, rfl, rfl⟩, hl1.push _⟩ (fun b o e => Heap.get?_push_of_some _ (Heap.get?_push_of_some _ e)) ⟨[], #[], 0, _, set4_new (Heap.get?_push_of_some _ g1), ⟨(fun _ z => nomatch z), (fun _ z => by simp at z), Nat.le_refl _⟩⟩ ?_
        rintro ⟨h', g2', d', tk', os'⟩ L es ep t m hS g kp
        have eg : g2' = s.gens := m.gens
        have ed : d' = s.drawn := m.drawn
        have eo : os' = s.os := m.os
        subst eg
        subst ed
        subst eo
        rw [isz] at g
        exact wpAny_pure (wpAny_pure ⟨rfl, h', tk', L, es, ep, t, rfl, hS, g, kp⟩)
    · match r2, hr2 with
      | .error e, hr2 => exact hr2
      | .ok (.ret r), hr2 =>
        obtain ⟨rfl, h', tk, L, es, ep, t, rfl, hS, g, kp⟩ := hr2
        repeat (any_goals (first | assumption | wp_step))
        exact hQ _ _ _ _ _ _ hS g kp
end
end Dw
set_option Elab.async false
set_option linter.all false
set_option maxRecDepth 100000
set_option maxHeartbeats 4000000
/-! DwT2: sorted of a small set; sorted(set(xs)) over data. -/
namespace Dw
open PySem PySem.Spec PyProof.Rows L2 PySem.W PySem.Calls

theorem perm_map {α β : Type} {f : α → β} {vs ws : List β} (h : vs.Perm ws) : ∀ {L : List α}, ws = L.map f → ∃ L1 : List α, L1.Perm L ∧ vs = L1.map f := by
  induction h with
  | nil =>
    intro L e
    cases L with
    | nil => exact ⟨[], .nil, rfl⟩
    | cons _ _ => cases e
  | cons x _ ih =>
    intro L e
    cases L with
    | nil => cases e
    | cons q L =>
      cases e
      obtain ⟨L1, p, rfl⟩ := ih rfl
      exact ⟨q :: L1, p.cons q, rfl⟩
  | swap x y l =>
    intro L e
    match L, e with
    | q :: r :: L, e =>
      cases e
      exact ⟨r :: q :: L, .swap q r L, rfl⟩
  | trans _ _ ih1 ih2 =>
    intro L e
    obtain ⟨L2, p2, rfl⟩ := ih2 e
    obtain ⟨L1, p1, rfl⟩ := ih1 rfl
    exact ⟨L1, p1.trans p2, rfl⟩
def kPy : Key → PyData
  | .inl i => .int i
  | .inr x => .str x
def encK (q : Addr × List Key) : PyData := .tuple (q.2.map kPy)
section
variable {P : Program} {w : World} {A : Around} {E : Value → Shared → Prop} {s : Shared}
theorem kt_reads {h : Heap} {q : Addr × List Key} (hk : KT P w h q.2 q.1) : Reads h (.ref q.1) (encK q) [] := by
  obtain ⟨o, items, n, ho, hc, hd, hi⟩ := hk
  have all : ∀ {ks : List Key} {vs : List Value}, ItemsAre (mixKind P w) ks vs → ReadsAll h vs (ks.map kPy) [] := by
    intro ks vs z
    induction z with
    | nil => exact .nil
    | cons h1 _ ih =>
      rcases keyIs_shape h1 with ⟨i, t, rfl, rfl⟩ | ⟨x, t, rfl, rfl⟩
      · exact .cons (as := []) (.int i t) ih
      · exact .cons (as := []) (.str x t) ih
  exact .tuple ho hc hd (all hi)
variable {a : Addr} {L : List (Addr × List Key)} {es : Array (Int × Value)} {ep : Nat} {t : SetTable}
/-- sorted of it -/
theorem sorted4 (R : Set4 P w s.heap a L es ep t) (hh : A.handled = none) (hu : A.units + 20 < cLine) (hal : AllAlike (L.map encK)) (hk : Sortable (L.map encK)) {Q : Value → Shared → Prop}
    (hQ : ∀ s' p (out : Array Value) (c : Nat) (L' : List (Addr × List Key)), (∀ b o, s.heap.get? b = some o → s'.heap.get? b = some o) → s'.gens = s.gens → s'.os = s.os → s.heap.objs.size ≤ p →
      s'.heap.get? p = some (seqObj "list" out c) → out.toList = L'.map (fun q => Value.ref q.1) → L'.Perm L → L'.Pairwise (fun q r => dataLe false encK q r = true) → Q (.ref p) s') :
    wpAny (model P w) A (call (.builtin "sorted") [.ref a]) Q E s := by
  obtain ⟨o, ho, hex, hd⟩ := R.ob
  have e1 := R.size
  have e2 := R.few
  refine Calls.call_function_entry kind_sorted plain_sorted entry_sorted (args_sorted1 _) ?_
  unfold Builtin.«sorted»
  refine wpAny_bind (m := checkCount "sorted" 1 1 _) (wpAny_pure ?_)
  refine wpAny_bind (collect_set (A := A.in1) hh ⟨o, ho, hex.1, hd⟩ R.fits (by unfold scanBound; omega) R.tab.ris R.led fun s1 vs k1 hz g1 o1 pm => ?_)
  have hes : es.toList.map (·.2) = L.map fun q => Value.ref q.1 := by
    rw [R.rows, rows4, List.map_map]
    rfl
  rw [hes] at pm
  obtain ⟨L1, p1, rfl⟩ := perm_map pm rfl
  have n1 : L1.length < 64 := by rw [p1.length_eq]; exact e2
  have tk : ∀ q ∈ L1, KT P w s1.heap q.2 q.1 := fun q hq => kt_keep (R.tup q (p1.mem_iff.mp hq)) k1
  refine wpAny_bind (wpAny_newList ?_ (by rw [List.length_map, sizeLine_eq]; omega))
  have hoL : (s1.heap.push (seqObj "list" (L1.map fun q => Value.ref q.1).toArray 0)).get? s1.heap.objs.size = some (seqObj "list" (L1.map fun q => Value.ref q.1).toArray 0) := Heap.get?_push_size _ rfl
  have each : ∀ {M : List (Addr × List Key)}, EachIs (fun v (b : Addr × List Key) => v = Value.ref b.1) (M.map fun q => Value.ref q.1) M := by
    intro M
    induction M with
    | nil => exact .nil
    | cons q M ih => exact .cons rfl ih
  have reads : ∀ M : List (Addr × List Key), (∀ q ∈ M, KT P w s1.heap q.2 q.1) → EachIs (fun v b => ∃ as, Reads (s1.heap.push (seqObj "list" (L1.map fun q => Value.ref q.1).toArray 0)) v (encK b) as ∧ s1.heap.objs.size ∉ as) (M.map fun q => Value.ref q.1) M := by
    intro M hM
    induction M with
    | nil => exact .nil
    | cons q M ih => exact .cons ⟨[], kt_reads (P := P) (w := w) (kt_keep (hM q (by simp)) fun c o e => Heap.get?_push_of_some _ e), by simp⟩ (ih fun r hr => hM r (List.mem_cons_of_mem _ hr))
  have pe : (L1.map encK).Perm (L.map encK) := p1.map _
  have deep : ∀ b ∈ L1, (encK b).depth ≤ 1 := by
    intro b _
    have : ∀ ks : List Key, PyData.depthAll (ks.map kPy) = 0 := fun ks => by
      induction ks with
      | nil => simp [PyData.depthAll]
      | cons k ks ih => cases k <;> simp [kPy, PyData.depthAll, PyData.depth, ih]
    show (PyData.tuple (b.2.map kPy)).depth ≤ 1
    simp [PyData.depth, this]
  refine wpAny_bind (wpAny_holding (list_sort_data (s := { s1 with heap := s1.heap.push (seqObj "list" (L1.map fun q => Value.ref q.1).toArray 0) }) (enc := encK) (bs := L1) hoL each (reads L1 tk)
    (fun d hd' d' hd2 => hal d (pe.mem_iff.mp hd') d' (pe.mem_iff.mp hd2)) (hk.imp (fun z d hd' => z d (pe.mem_iff.mp hd')) fun z d hd' => z d (pe.mem_iff.mp hd')) (by rw [sizeLine_eq]; omega)
    (fun b hb => by have := deep b hb; simp; omega) fun out hl he => ?_))
  obtain ⟨c, hc⟩ := sortedHeap_at (vs := L1.map fun q => Value.ref q.1) (out := out.toArray) hoL
  have T := sortLe_total (listOrd itemOrd) false fun q : Addr × List Key => keyToks (encK q)
  have hout : out = (L1.mergeSort (dataLe false encK)).map fun q => Value.ref q.1 := by
    have : ∀ {vs : List Value} {M : List (Addr × List Key)}, EachIs (fun v (b : Addr × List Key) => v = Value.ref b.1) vs M → vs = M.map fun q => Value.ref q.1 := by
      intro vs M z
      induction z with
      | nil => rfl
      | cons h1 _ ih => rw [List.map_cons, ← ih, h1]
    exact this he
  refine wpAny_pure ⟨_, rfl, hQ _ s1.heap.objs.size out.toArray c (L1.mergeSort (dataLe false encK)) (fun b u e => ?_) g1 o1 hz hc (by simpa using hout) ((List.mergeSort_perm _ _).trans p1) (List.pairwise_mergeSort (fun x y z => T.trans x y z) (fun x y => by rw [Bool.or_eq_true]; exact T.total x y) L1)⟩
  have q := k1 b u e
  have lt := Heap.lt_size q
  show (sortedHeap _ _ _ _).get? b = some u
  rw [sortedHeap_old (Nat.ne_of_lt lt) (by rw [size_push']; exact Nat.lt_succ_of_lt lt)]
  exact Heap.get?_push_of_some _ q
end
end Dw
set_option Elab.async false
set_option linter.all false
set_option maxRecDepth 100000
set_option maxHeartbeats 4000000
/-! DwS1: sets of texts, and sorted of them. -/
namespace Dw
open PySem PySem.Spec PyProof.Rows L2 PySem.W PySem.Calls

def keyS (e : Int × Value) : Str := match e.2 with
  | .str x _ => x
  | _ => Str.empty
def GoodS (w : World) (e : Int × Value) : Prop := ∃ x tk, e.2 = Value.str x tk ∧ e.1 = hashStr w x
def SetS (P : Program) (w : World) (h : Heap) (a : Addr) (L : List Str) : Prop :=
  ∃ o es ep t, h.get? a = some o ∧ o.ExactSet ∧ o.data = .set es ep t ∧ (∀ e ∈ es.toList, GoodS w e) ∧ es.toList.map keyS = L ∧ L.Nodup ∧ es.size < scanBound ∧ t.fits es.size = true ∧ Ris t.place.toList ∧ (w.params.followText "set-order" = true ∨ t.led = true)
section
variable {P : Program} {w : World} {h h' : Heap} {a : Addr} {L : List Str}
theorem SetS.at (R : SetS P w h a L) (k : ∀ o, h.get? a = some o → h'.get? a = some o) : SetS P w h' a L := by
  obtain ⟨o, es, ep, t, ho, r⟩ := R
  exact ⟨o, es, ep, t, k o ho, r⟩
theorem goodS_elems {l : List (Int × Value)} (g : ∀ e ∈ l, GoodS w e) : ElemsOf (PySem.strKind P w) l := fun e he => by
  obtain ⟨k, tk, h1, h2⟩ := g e he
  exact ⟨⟨k, by rw [h1]; exact strKind_is P w k tk, h2⟩, by rw [h1]; rfl⟩
theorem goodS_is {e : Int × Value} (g : GoodS w e) (k : Str) : (PySem.strKind P w).is k e.2 = true ↔ keyS e = k := by
  obtain ⟨k0, tk, h1, _⟩ := g
  unfold keyS
  rw [h1]
  show (Value.isStrOf k (.str k0 tk) = true) ↔ k0 = k
  unfold Value.isStrOf
  constructor
  · intro z
    simpa using z
  · rintro rfl
    simp
theorem goodS_mem {l : List (Int × Value)} (g : ∀ e ∈ l, GoodS w e) (k : Str) : k ∈ l.map keyS ↔ ∃ e ∈ l, (PySem.strKind P w).is k e.2 = true := by
  rw [List.mem_map]
  constructor
  · rintro ⟨e, he, q⟩
    exact ⟨e, he, (goodS_is (g e he) k).2 q⟩
  · rintro ⟨e, he, q⟩
    exact ⟨e, he, (goodS_is (g e he) k).1 q⟩
end
section
variable {P : Program} {w : World} {A : Around} {E : Value → Shared → Prop} {s : Shared} {a : Addr} {L : List Str}
theorem setS_tail {g : Bool → Sem Unit} (hg : ∀ (b : Bool) (s₁ : Shared) (Q' : Unit → Shared → Prop), Q' () s₁ → wpAny (model P w) A (g b) Q' E s₁)
    {o : Obj} {es : Array (Int × Value)} {ep : Nat} {t : SetTable} (ho : s.heap.get? a = some o) (hex : o.ExactSet) (hd : o.data = .set es ep t)
    {es1 : Array (Int × Value)} {t2 : SetTable} (g1 : ∀ e ∈ es1.toList, GoodS w e) (nd1 : (es1.toList.map keyS).Nodup)
    (hb1 : es1.size < scanBound) (hf2 : t2.fits es1.size = true) (hr : Ris t2.place.toList) (hl : w.params.followText "set-order" = true ∨ t2.led = true) {wasDummy : Bool} {R : Option Bool → Shared → Prop}
    (hR : ∀ h' L', Heap.SameBut a s.heap h' → SetS P w h' a L' → L'.Perm (es1.toList.map keyS) → R (some true) { s with heap := h' }) :
    wpAny (model P w) A (do
        storeSet a es1 t2
        if (!wasDummy && t2.tooFull) = true then do
            g (relayAll t2 es1 (SetTable.grown es1.size)).2.2
            storeSet a (relayAll t2 es1 (SetTable.grown es1.size)).1 (relayAll t2 es1 (SetTable.grown es1.size)).2.1
            pure (some true)
          else pure (some true)) R E s := by
  refine wpAny_bind (wpAny_storeSet_of ho hd ?_ (fits_of_scanBound hb1))
  have ho1 := store_at (es' := es1) (t' := t2) ho hd
  have sb1 := Heap.SameBut.update s.heap a (Obj.putSet es1 t2)
  split
  · have pm := relayAll_perm t2 es1 (SetTable.grown es1.size)
    have hf3 := relayAll_fits t2 es1 (SetTable.grown es1.size)
    have hr3 := relayAll_ris t2 es1 (SetTable.grown es1.size)
    have hl3 := relayAll_led t2 es1 (SetTable.grown es1.size)
    generalize relayAll t2 es1 (SetTable.grown es1.size) = Z at pm hf3 hr3 hl3 ⊢
    obtain ⟨es2, t3, gave⟩ := Z
    dsimp only at pm hf3 hr3 hl3 ⊢
    have hsz : es2.size = es1.size := by rw [← Array.length_toList, pm.length_eq, Array.length_toList]
    have hb2 : es2.size < scanBound := by rw [hsz]; exact hb1
    refine wpAny_bind (hg _ _ _ ?_)
    refine wpAny_bind (wpAny_storeSet_of ho1 rfl ?_ (fits_of_scanBound hb2))
    have ho2 := store_at (es' := es2) (t' := t3) ho1 rfl
    refine wpAny_pure (hR _ (es2.toList.map keyS) (sb1.trans (Heap.SameBut.update _ a _)) ?_ (pm.map keyS))
    exact ⟨_, es2, _, t3, ho2, hex, rfl, fun e he => g1 e (pm.mem_iff.mp he), rfl, (pm.map keyS).nodup_iff.mpr nd1, hb2, hf3, hr3, hl.imp id fun z => by rw [hl3]; exact z⟩
  · exact wpAny_pure (hR _ _ sb1 ⟨_, es1, _, t2, ho1, hex, rfl, g1, rfl, nd1, hb1, hf2, hr, hl⟩ (.refl _))
theorem addS {k : Str} {tk : Tok} {Q : Bool → Shared → Prop} (R : SetS P w s.heap a L) (room : L.length + 1 < scanBound)
    (hQ : ∀ b h' L', Heap.SameBut a s.heap h' → SetS P w h' a L' → (k ∈ L → L' = L) → (k ∉ L → L'.Perm (k :: L)) → Q b { s with heap := h' }) :
    wpAny (model P w) A (setAddHashed a (.str k tk) ((PySem.strKind P w).hash k)) Q E s := by
  obtain ⟨o, es, ep, t, ho, hex, hd, g, rfl, nd, hb, hf, hr, hl⟩ := R
  have hkey : (PySem.strKind P w).is k (.str k tk) = true := strKind_is P w k tk
  have hsc : (Value.str k tk).scannable = true := rfl
  have hel : ElemsOf (PySem.strKind P w) es.toList := goodS_elems g
  unfold setAddHashed setAddHashedIn
  refine wpAny_holding (wpAny_bind (wpAny_setState_of ho hd hf ?_))
  dsimp only
  rw [byScan_of hsc hb hel]
  simp only [↓reduceIte]
  unfold setAddByScan
  refine wpAny_bind ?_
  refine wpAny_bind (wpAny_rule ?_)
  refine wpAny_bind (wpAny_setScan_of hkey ho hd hf hel ?_)
  cases hfi : List.findIdx? (fun e => (PySem.strKind P w).is k e.2) es.toList with
  | some j =>
    dsimp only
    obtain ⟨hj, pj, _⟩ := List.findIdx?_eq_some_iff_getElem.mp hfi
    have hm : k ∈ es.toList.map keyS := (goodS_mem (P := P) (w := w) g k).2 ⟨es.toList[j], List.getElem_mem hj, pj⟩
    refine wpAny_pure (wpAny_pure ?_)
    exact hQ false s.heap _ (Heap.SameBut.refl a s.heap) ⟨o, es, ep, t, ho, hex, hd, g, rfl, nd, hb, hf, hr, hl⟩ (fun _ => rfl) fun z => absurd hm z
  | none =>
    dsimp only
    have hnk : k ∉ es.toList.map keyS := fun z => by
      obtain ⟨e, he, q⟩ := (goodS_mem (P := P) (w := w) g k).1 z
      have c := List.findIdx?_eq_none_iff.mp hfi e he
      rw [q] at c
      cases c
    have hgw : ∀ (b : Bool) {s₁ : Shared} {Q' : Unit → Shared → Prop}, Q' () s₁ → wpAny (model P w) A (match b with | true => rule "set.scan.the-table-gave-way" | false => pure ()) Q' E s₁ :=
      fun b s₁ Q' q => by cases b <;> first | exact wpAny_pure q | exact wpAny_rule q
    have pm := layNew_perm t es ((PySem.strKind P w).hash k) (.str k tk)
    have hf1 := layNew_fits t es ((PySem.strKind P w).hash k) (.str k tk)
    have hr1 := layNew_ris t es ((PySem.strKind P w).hash k) (.str k tk) hr
    have hl1 := layNew_led t es ((PySem.strKind P w).hash k) (.str k tk)
    generalize layNew t es ((PySem.strKind P w).hash k) (.str k tk) = Z at pm hf1 hr1 hl1 ⊢
    obtain ⟨es1, t1, wasDummy, gave⟩ := Z
    dsimp only at pm hf1 hr1 hl1 ⊢
    rw [Array.toList_push] at pm
    have pc : es1.toList.Perm (((PySem.strKind P w).hash k, Value.str k tk) :: es.toList) := pm.trans (List.perm_append_singleton _ _)
    have pk : (es1.toList.map keyS).Perm (k :: es.toList.map keyS) := pc.map keyS
    have g1 : ∀ e ∈ es1.toList, GoodS w e := fun e he => by
      rcases List.mem_cons.mp (pc.mem_iff.mp he) with z | z
      · rw [z]; exact ⟨k, tk, rfl, rfl⟩
      · exact g e z
    have nd1 : (es1.toList.map keyS).Nodup := pk.nodup_iff.mpr (List.nodup_cons.mpr ⟨hnk, nd⟩)
    have hsz : es1.size = es.size + 1 := by rw [← Array.length_toList, pc.length_eq, List.length_cons, Array.length_toList]
    have hb1 : es1.size < scanBound := by rw [hsz]; simpa using room
    have hled : w.params.followText "set-order" = true ∨ t1.led = true := hl.imp id fun z => by rw [hl1]; exact z
    have fin : ∀ h' L', Heap.SameBut a s.heap h' → SetS P w h' a L' → L'.Perm (es1.toList.map keyS) → Q true { s with heap := h' } := fun h' L' sb r p => hQ true h' L' sb r (fun z => absurd z hnk) fun _ => p.trans pk
    refine wpAny_bind (hgw _ ?_)
    split
    · refine wpAny_bind ?_
      rw [hashByValue_scannable 8 hsc]
      refine wpAny_pure ?_
      refine setS_tail ?_ ho hex hd g1 nd1 hb1 ?_ ?_ ?_ ?_
      · intro b s₁ Q' q; cases b <;> first | exact wpAny_pure q | exact wpAny_rule q
      · first | (split <;> first | exact hf1 | exact SetTable.fits_plain_off hf1) | exact hf1
      · first | (split <;> exact hr1) | exact hr1
      · first | (split <;> exact hled) | exact hled
      · intro h' L' sb r p; dsimp only; exact wpAny_pure (fin h' L' sb r p)
    · refine wpAny_bind (wpAny_pure ?_)
      simp only [↓reduceIte]
      refine setS_tail ?_ ho hex hd g1 nd1 hb1 hf1 hr1 hled ?_
      · intro b s₁ Q' q; cases b <;> first | exact wpAny_pure q | exact wpAny_rule q
      · intro h' L' sb r p; dsimp only; exact wpAny_pure (fin h' L' sb r p)
/-- what the set has of the first i items -/
structure GotS (its : List Str) (i : Nat) (L : List Str) : Prop where
  sub : ∀ q ∈ L, q ∈ its.take i
  all : ∀ q ∈ its.take i, q ∈ L
  len : L.length ≤ i
theorem GotS.next {its L L' : List Str} {i : Nat} {q : Str} (g : GotS its i L) (e : its[i]? = some q) (c1 : q ∈ L → L' = L) (c2 : q ∉ L → L'.Perm (q :: L)) : GotS its (i + 1) L' := by
  rcases Classical.em (q ∈ L) with c | c
  · rw [c1 c]
    refine ⟨fun r hr => ?_, fun r hr => ?_, Nat.le_succ_of_le g.len⟩
    · rw [take_succ' e]
      exact List.mem_append_left _ (g.sub r hr)
    · rw [take_succ' e] at hr
      rcases List.mem_append.mp hr with z | z
      · exact g.all r z
      · rw [List.mem_singleton.mp z]
        exact c
  · have pm := c2 c
    refine ⟨fun r hr => ?_, fun r hr => ?_, by rw [pm.length_eq]; exact Nat.succ_le_succ g.len⟩
    · rw [take_succ' e]
      rcases List.mem_cons.mp (pm.mem_iff.mp hr) with rfl | z
      · simp
      · exact List.mem_append_left _ (g.sub r z)
    · rw [pm.mem_iff]
      rw [take_succ' e] at hr
      rcases List.mem_append.mp hr with z | z
      · exact List.mem_cons_of_mem _ (g.all r z)
      · rw [List.mem_singleton.mp z]
        simp
theorem setS_new {h : Heap} (ho : h.get? a = some (newSetO w)) : SetS P w h a [] :=
  ⟨_, #[], 0, _, ho, ⟨rfl, rfl, rfl⟩, rfl, (fun _ z => nomatch z), rfl, List.nodup_nil, by unfold scanBound; decide, rfl, List.Pairwise.nil, by
    show _ ∨ (!w.params.followText "set-order") = true
    cases w.params.followText "set-order" <;> simp⟩
/-- the loop that puts the items in -/
theorem updateS {I : Addr} {fp wr : List Addr} {G : Array GenState → Array GenState → Prop} {n : Nat} {Pv : Nat → Value → Prop} {St : Nat → Shared → Prop} {R : Result → Shared → Prop}
    (W : WalksS P w A.in1 I fp wr G n Pv St) (S : Addr) (hSf : S ∉ fp) (its : List Str) (hn : n = its.length) (few : its.length < 63) (hv : ∀ i v, Pv i v → ∃ q tk, its[i]? = some q ∧ v = .str q tk)
    (h0 : Heap) (hS0 : h0.get? S = none) (hw0 : ∀ b ∈ wr, h0.get? b = none) (hu : A.in1.units < cLine) :
    ∀ (k i : Nat) (s : Shared), n - i = k → i ≤ n → St i s → (∀ b o, h0.get? b = some o → s.heap.get? b = some o) → (∃ L, SetS P w s.heap S L ∧ GotS its i L) →
      (∀ s' L, Moved (S :: wr) G s s' → SetS P w s'.heap S L → GotS its n L → (∀ b o, h0.get? b = some o → s'.heap.get? b = some o) → R (.ok (.ret .none)) s') →
      codeAny (model P w) A (.builtin "set.update.loop" ⟨[.ref S, .ref I], []⟩) R s := by
  have nw : S ∉ wr := fun z => hSf (W.sub _ z)
  have sub : ∀ b ∈ wr, b ∈ S :: wr := fun _ z => List.mem_cons_of_mem _ z
  have stay : ∀ {s s' : Shared}, Moved wr G s s' → (∀ b o, h0.get? b = some o → s.heap.get? b = some o) → ∀ b o, h0.get? b = some o → s'.heap.get? b = some o := fun m k b o e =>
    m.heap b o (fun z => by rw [hw0 b z] at e; cases e) (k b o e)
  intro k
  induction k with
  | zero =>
    rintro i s hk' hi hst hkp ⟨L, hS, g⟩ hR
    obtain rfl : i = n := by omega
    refine codeAny_builtin F.entry_set_update_loop ?_
    rw [Around.under_plainId F.plain_set_update_loop _]
    refine wpAny_bind (m := pyNext (.ref I)) (W.done s _ _ hst fun s' m => ?_)
    have hkp' := stay m hkp
    refine wpAny_pure (hR s' L (m.mono sub) (hS.at fun o e => m.heap S o nw e) g hkp')
  | succ k ih =>
    rintro i s hk' hi hst hkp ⟨L, hS, g⟩ hR
    have lt : i < n := by omega
    refine codeAny_builtin F.entry_set_update_loop ?_
    rw [Around.under_plainId F.plain_set_update_loop _]
    refine wpAny_bind (m := pyNext (.ref I)) (W.item i s _ _ lt hst fun v s' hP hst' m => ?_)
    obtain ⟨q, tk, hq, rfl⟩ := hv i v hP
    have hkp' := stay m hkp
    have hS' : SetS P w s'.heap S L := hS.at fun o e => m.heap S o nw e
    refine wpAny_bind (m := holding [Value.str q tk] (setAdd S (.str q tk))) (wpAny_holding ?_)
    unfold setAdd
    refine wpAny_holding (wpAny_bind ((PySem.strKind P w).pyHash (strKind_is P w q tk) ?_))
    refine addS (s := { s' with toks := s'.toks + 1 }) hS' (by have := g.len; unfold scanBound; omega) fun b h' L' sb hS2 c1 c2 => ?_
    have kp2 : ∀ b o, h0.get? b = some o → h'.get? b = some o := fun b o e => (sb.2 b (fun z => by rw [z, hS0] at e; cases e)).trans (hkp' b o e)
    refine wpAny_pure ⟨plainId_quiet F.plain_set_update_loop _, ih (i + 1) _ (by omega) lt (W.frame _ s' _ _ hst' (Nat.le_add_right _ _) fun b hb o e => ?_) kp2 ⟨L', hS2, g.next hq c1 c2⟩ fun s2 L2 m2 hS3 g3 kp3 => ?_⟩
    · exact (sb.2 b (fun z => hSf (z ▸ hb))).trans e
    · refine hR s2 L2 (Moved.trans W.gtrans ((m.mono sub).then_heap (Nat.le_add_right _ _) fun b o hb e => ?_) m2) hS3 g3 kp3
      exact (sb.2 b (fun z => hb (by rw [z]; exact List.mem_cons_self))).trans e
/-- set(xs): texts -/
theorem call_setS {T : String} (hT : T = "list" ∨ T = "tuple") {l : Addr} {items : Array Value} (its : List Str) {Q : Value → Shared → Prop} (hh : A.handled = none) (hl : ∃ o, s.heap.get? l = some o ∧ o.cls = .type T ∧ ∃ n, o.data = .seq items n) (hit : ∀ (i : Nat) (v : Value), items[i]? = some v → ∃ q tk, its[i]? = some q ∧ v = .str q tk) (isz : items.size = its.length)
    (few : its.length < 63) (hu : A.units + 3 < cLine)
    (hQ : ∀ (h' : Heap) (tk : Nat) L, SetS P w h' s.heap.objs.size L → GotS its its.length L → (∀ b o, s.heap.get? b = some o → h'.get? b = some o) → Q (.ref s.heap.objs.size) { s with heap := h', toks := tk }) :
    wpAny (model P w) A (call (.type "set") [.ref l]) Q E s := by
  obtain ⟨c, tl, hmro⟩ := F.called_set.mro
  have f1 := F.called_set.made
  have f2 := F.called_set.sub
  have f3 := F.called_set.notType
  have f4 := F.called_set.canCreate
  have f5 := F.typeCall_set_1 (.ref l)
  refine wpAny_call (codeAny_of_tree ?_)
  show wpAny _ _ (callAny (.type "set") _) _ _ s
  refine wpAny_pure ⟨Code.quiet_builtin _ (by decide +kernel), codeAny_builtin F.entry_type_call ?_⟩
  rw [Around.under_plain (weight_type_call_type "set" [.ref l] []) rfl]
  repeat (any_goals (first | assumption | wp_step))
  refine codeAny_mono (code_set_led1 (.ref l) (E := E) (Q₁ := fun ob s1 => ob = .ref s.heap.objs.size ∧ s1 = { s with heap := s.heap.push (newSetO w) }) ⟨rfl, rfl⟩) fun r s1 hr => ?_
  match r, hr with
  | .error e, hr => exact hr
  | .ok (.ret ob), hr =>
    obtain ⟨rfl, rfl⟩ := hr
    have g1 : (s.heap.push (newSetO w)).get? s.heap.objs.size = some (newSetO w) := Heap.get?_push_size _ rfl
    have ty : Shared.TypeIs { s with heap := s.heap.push (newSetO w) } (.ref s.heap.objs.size) "set" := ⟨_, g1, rfl⟩
    have f6 := F.called_set.init.lookup
    have f7 := F.called_set.init.bind (.ref s.heap.objs.size)
    repeat (any_goals (first | assumption | wp_step))
    refine codeAny_mono (codeAny_call_builtin (R := wants (fun r s2 => r = .none ∧ ∃ h' tk L, s2 = { s with heap := h', toks := tk } ∧ SetS P w h' s.heap.objs.size L ∧ GotS its its.length L ∧ (∀ b o, s.heap.get? b = some o → h'.get? b = some o)) E) F.called_set.init.plain F.entry_set_init (check_set_init_1 ty ?_)) fun r2 s2 hr2 => ?_
    · obtain ⟨⟨cl, di, da, sl⟩, hol, hcl, nl, hdl⟩ := hl
      simp only at hcl hdl
      subst hcl
      subst hdl
      have g2 : (s.heap.push (newSetO w)).get? l = some { cls := .type T, dict := di, data := .seq items nl, slots := sl } := Heap.get?_push_of_some _ hol
      have f8 : isSubtype (.type T) (.type "set") = pure false := by rcases hT with rfl | rfl; exact F.sub_list_set; exact F.sub_tuple_set
      have f9 : isSubtype (.type T) (.type "frozenset") = pure false := by rcases hT with rfl | rfl; exact F.sub_list_frozenset; exact F.sub_tuple_frozenset
      have f10 : (Value.type T == Value.type "dict") = false := by rcases hT with rfl | rfl <;> decide
      unfold Builtin.«set.__init__» noKeywords Builtin.Frozenset.updateFrom
      generalize hPI : pyIter = PI
      wp_walk
      subst hPI
      have lt : l < s.heap.objs.size := Heap.lt_size hol
      have sz1 : (s.heap.push (newSetO w)).objs.size = s.heap.objs.size + 1 := Heap.size_push ..
      have gone : ∀ b, s.heap.objs.size ≤ b → s.heap.get? b = none := fun b hb => by
        cases e : s.heap.get? b with
        | none => rfl
        | some o => exact absurd (Heap.lt_size e) (Nat.not_lt.mpr hb)
      have hval := hit
      rcases hT with rfl | rfl
      · have hl1 : (s.heap.push (newSetO w)).IsList l items := ⟨_, g2, rfl, nl, rfl⟩
        refine wpAny_pyIter_list hl1 (wpAny_bind (wpAny_runValue ?_))
        refine updateS ((Walks.list (by simp [hh]) _ l (by rw [sz1]; exact Nat.ne_of_lt (Nat.lt_succ_of_lt lt)) items).toS) s.heap.objs.size (by rw [sz1]; simp only [List.mem_cons, List.not_mem_nil, or_false, not_or]; exact ⟨Nat.ne_of_lt (Nat.lt_succ_self _), Nat.ne_of_gt lt⟩) its isz few hval s.heap (gone _ (Nat.le_refl _))
          (fun b hb => gone b (by rw [List.mem_singleton.mp hb, sz1]; omega)) hu (items.size - 0) 0 _ (by omega) (Nat.zero_le _)
          ⟨⟨_, Heap.get?_push_size _ rfl, rfl, rfl⟩, hl1.push _⟩ (fun b o e => Heap.get?_push_of_some _ (Heap.get?_push_of_some _ e)) ⟨[], setS_new (Heap.get?_push_of_some _ g1), ⟨(fun _ z => nomatch z), (fun _ z => by simp at z), Nat.le_refl _⟩⟩ ?_
        rintro ⟨h', g2', d', tk', os'⟩ L m hS g kp
        have eg : g2' = s.gens := m.gens
        have ed : d' = s.drawn := m.drawn
        have eo : os' = s.os := m.os
        subst eg
        subst ed
        subst eo
        rw [isz] at g
        exact wpAny_pure (wpAny_pure ⟨rfl, h', tk', L, rfl, hS, g, kp⟩)
      · have hl1 : (s.heap.push (newSetO w)).IsTuple l items := ⟨_, g2, rfl, nl, rfl⟩
        refine wpAny_pyIter_tuple hl1 (wpAny_bind (wpAny_runValue ?_))
        refine updateS ((Walks.tuple (by simp [hh]) _ l (by rw [sz1]; exact Nat.ne_of_lt (Nat.lt_succ_of_lt lt)) items).toS) s.heap.objs.size (by rw [sz1]; simp only [List.mem_cons, List.not_mem_nil, or_false, not_or]; exact ⟨Nat.ne_of_lt (Nat.lt_succ_self _), Nat.ne_of_gt lt⟩) its isz few hval s.heap (gone _ (Nat.le_refl _))
          (fun b hb => gone b (by rw [List.mem_singleton.mp hb, sz1]; omega)) hu (items.size - 0) 0 _ (by omega) (Nat.zero_le _)
          ⟨⟨_, Heap.get?_push_size _ rfl, rfl, rfl⟩, hl1.push _⟩ (fun b o e => Heap.get?_push_of_some _ (Heap.get?_push_of_some _ e)) ⟨[], setS_new (Heap.get?_push_of_some _ g1), ⟨(fun _ z => nomatch z), (fun _ z => by simp at z), Nat.le_refl _⟩⟩ ?_
        rintro ⟨h', g2', d', tk', os'⟩ L m hS g kp
        have eg : g2' = s.gens := m.gens
        have ed : d' = s.drawn := m.drawn
        have eo : os' = s.os := m.os
        subst eg
        subst ed
        subst eo
        rw [isz] at g
        exact wpAny_pure (wpAny_pure ⟨rfl, h', tk', L, rfl, hS, g, kp⟩)
    · match r2, hr2 with
      | .error e, hr2 => exact hr2
      | .ok (.ret r), hr2 =>
        obtain ⟨rfl, h', tk, L, rfl, hS, g, kp⟩ := hr2
        repeat (any_goals (first | assumption | wp_step))
        exact hQ _ _ _ hS g kp
end
end Dw
set_option Elab.async false
set_option linter.all false
set_option maxRecDepth 100000
set_option maxHeartbeats 4000000
/-! DwS2: sorted of a set of texts; set and sorted over data. -/
namespace Dw
open PySem PySem.Spec PyProof.Rows L2 PySem.W PySem.Calls

def strOf (v : Value) : Str := match v with
  | .str x _ => x
  | _ => Str.empty
def encV (v : Value) : PyData := .str (strOf v)
section
variable {P : Program} {w : World} {A : Around} {E : Value → Shared → Prop} {s : Shared} {a : Addr} {L : List Str}
theorem sortedS (R : SetS P w s.heap a L) (hh : A.handled = none) (hu : A.units + 20 < cLine) (hal : AllAlike (L.map PyData.str)) (hk : Sortable (L.map PyData.str)) {Q : Value → Shared → Prop}
    (hQ : ∀ s' p (out : Array Value) (c : Nat) (L' : List Str), (∀ b o, s.heap.get? b = some o → s'.heap.get? b = some o) → s'.gens = s.gens → s'.os = s.os → s.heap.objs.size ≤ p →
      s'.heap.get? p = some (seqObj "list" out c) → (∃ vs : List Value, out.toList = vs ∧ vs.map strOf = L' ∧ ∀ v ∈ vs, ∃ tk, v = .str (strOf v) tk) → L'.Perm L → L'.Pairwise (fun q r => dataLe false PyData.str q r = true) → Q (.ref p) s') :
    wpAny (model P w) A (call (.builtin "sorted") [.ref a]) Q E s := by
  obtain ⟨o, es, ep, t, ho, hex, hd, g, eL, nd, hb, hf, hr, hl⟩ := R
  refine Calls.call_function_entry kind_sorted plain_sorted entry_sorted (args_sorted1 _) ?_
  unfold Builtin.«sorted»
  refine wpAny_bind (m := checkCount "sorted" 1 1 _) (wpAny_pure ?_)
  refine wpAny_bind (collect_set (A := A.in1) hh ⟨o, ho, hex.1, hd⟩ hf hb hr hl fun s1 vs k1 hz g1 o1 pm => ?_)
  have sv : ∀ v ∈ vs, ∃ tk, v = .str (strOf v) tk := fun v hv => by
    obtain ⟨e, he, rfl⟩ := List.mem_map.mp (pm.mem_iff.mp hv)
    obtain ⟨x, tk, h1, _⟩ := g e he
    rw [h1]
    exact ⟨tk, rfl⟩
  have pL : (vs.map strOf).Perm L := by
    rw [← eL]
    have := pm.map strOf
    rw [List.map_map] at this
    exact this
  have n1 : vs.length = es.size := by rw [pm.length_eq, List.length_map, Array.length_toList]
  have sz : vs.length ≤ sizeLine := by rw [n1]; exact fits_of_scanBound hb
  refine wpAny_bind (wpAny_newList ?_ sz)
  have hoL : (s1.heap.push (seqObj "list" vs.toArray 0)).get? s1.heap.objs.size = some (seqObj "list" vs.toArray 0) := Heap.get?_push_size _ rfl
  have each : ∀ M : List Value, EachIs (fun v (b : Value) => v = b) M M := by
    intro M
    induction M with
    | nil => exact .nil
    | cons q M ih => exact .cons rfl ih
  have reads : ∀ M : List Value, (∀ v ∈ M, ∃ tk, v = .str (strOf v) tk) → EachIs (fun v b => ∃ as, Reads (s1.heap.push (seqObj "list" vs.toArray 0)) v (encV b) as ∧ s1.heap.objs.size ∉ as) M M := by
    intro M hM
    induction M with
    | nil => exact .nil
    | cons q M ih =>
      obtain ⟨tk, e⟩ := hM q (by simp)
      refine .cons ⟨[], ?_, by simp⟩ (ih fun r hr => hM r (List.mem_cons_of_mem _ hr))
      have : Reads (s1.heap.push (seqObj "list" vs.toArray 0)) (.str (strOf q) tk) (encV q) [] := .str _ _
      rw [← e] at this
      exact this
  have em : vs.map encV = (vs.map strOf).map PyData.str := by rw [List.map_map]; rfl
  have pe : (vs.map encV).Perm (L.map PyData.str) := by rw [em]; exact pL.map _
  refine wpAny_bind (wpAny_holding (list_sort_data (s := { s1 with heap := s1.heap.push (seqObj "list" vs.toArray 0) }) (enc := encV) (bs := vs) hoL (each vs) (reads vs sv)
    (fun d hd' d' hd2 => hal d (pe.mem_iff.mp hd') d' (pe.mem_iff.mp hd2)) (hk.imp (fun z d hd' => z d (pe.mem_iff.mp hd')) fun z d hd' => z d (pe.mem_iff.mp hd')) sz
    (fun b _ => by
      have : (encV b).depth = 0 := by simp [encV, PyData.depth]
      rw [this]
      simp
      omega) fun out hl he => ?_))
  obtain ⟨c, hc⟩ := sortedHeap_at (vs := vs) (out := out.toArray) hoL
  have T := sortLe_total (listOrd itemOrd) false fun q : Value => keyToks (encV q)
  have hout : out = vs.mergeSort (dataLe false encV) := by
    have : ∀ {vs : List Value} {M : List Value}, EachIs (fun v (b : Value) => v = b) vs M → vs = M := by
      intro vs M z
      induction z with
      | nil => rfl
      | cons h1 _ ih => rw [← ih, h1]
    exact this he
  have pw : (vs.mergeSort (dataLe false encV)).Pairwise (fun q r => dataLe false encV q r = true) := List.pairwise_mergeSort (fun x y z => T.trans x y z) (fun x y => by rw [Bool.or_eq_true]; exact T.total x y) vs
  have pv := List.mergeSort_perm vs (dataLe false encV)
  refine wpAny_pure ⟨_, rfl, hQ _ s1.heap.objs.size out.toArray c ((vs.mergeSort (dataLe false encV)).map strOf) (fun b u e => ?_) g1 o1 hz hc ⟨_, by simpa using hout, rfl, fun v hv => sv v (pv.mem_iff.mp hv)⟩ ((pv.map strOf).trans pL) (List.pairwise_map.mpr pw)⟩
  have q := k1 b u e
  have lt := Heap.lt_size q
  show (sortedHeap _ _ _ _).get? b = some u
  rw [sortedHeap_old (Nat.ne_of_lt lt) (by rw [size_push']; exact Nat.lt_succ_of_lt lt)]
  exact Heap.get?_push_of_some _ q
end
def SetSO (P : Program) (w : World) (a : Addr) (L : List Str) : HO := .ext fun h => SetS P w h a L
theorem setS_laid {P : Program} {w : World} {H : Hp} {h : Heap} {a : Addr} {L : List Str} (R : SetS P w h a L) : ObjOk P w H h a (SetSO P w a L) :=
  ⟨R, (by obtain ⟨o, es, ep, t, ho, _⟩ := R; exact ⟨o, ho⟩), fun h1 h2 r k => r.at k⟩
section
variable {X : Cx} {pins : List (Addr × Obj)} {σ : L2.St} {H : Hp} {s : Shared}
theorem strs_vals : ∀ {its : List Str} {us : List Value}, Vals (its.map V.str) us → us.length = its.length ∧ ∀ (i : Nat) (v : Value), us[i]? = some v → ∃ q tk, its[i]? = some q ∧ v = .str q tk
  | [], _, .nil => ⟨rfl, fun i v h => by simp at h⟩
  | q :: its, _, .cons r t => by
    obtain ⟨tk, rfl⟩ := r
    obtain ⟨h1, h2⟩ := strs_vals t
    refine ⟨by simp [h1], fun i v h => ?_⟩
    cases i with
    | zero =>
      simp only [List.getElem?_cons_zero, Option.some.injEq] at h
      exact ⟨q, tk, rfl, h.symm⟩
    | succ i =>
      simp only [List.getElem?_cons_succ] at h
      exact h2 i v h
theorem vals_strs : ∀ vs : List Value, (∀ v ∈ vs, ∃ tk, v = .str (strOf v) tk) → Vals ((vs.map strOf).map V.str) vs
  | [], _ => .nil
  | v :: vs, h => .cons (by
      obtain ⟨tk, e⟩ := h v (by simp)
      exact ⟨tk, e⟩) (vals_strs vs fun u hu => h u (List.mem_cons_of_mem _ hu))
def rSetS (K : PySem.W.Frag) (P : Program) (w : World) : List V → Hp → VK → Prop := fun xs H Q => ∃ (l : Addr) (its : List Str), xs = [V.ref l] ∧ (SqL K H l (its.map V.str) ∨ SqT K H l (its.map V.str)) ∧
  its.length < 63 ∧ ∀ a L, H a = none → (∀ q ∈ L, q ∈ its) → (∀ q ∈ its, q ∈ L) → L.length ≤ its.length → L.Nodup → Q (.ref a) (upd H a (SetSO P w a L))
theorem SetS.nd {P : Program} {w : World} {h : Heap} {a : Addr} {L : List Str} (R : SetS P w h a L) : L.Nodup := by
  obtain ⟨o, es, ep, t, _, _, _, _, _, nd, _⟩ := R
  exact nd
theorem cr_setS (hc : X.calm = true) (hu : X.A.units + 64 < cLine) : CallR X (.type "set") (rSetS X.K X.prog X.w) := by
  rintro pins s σ H xs us Q I r ⟨l, its, rfl, hl, few, q⟩
  rw [Vals.ref1 r]
  have n : H s.heap.objs.size = none := I.hok.fresh (Nat.le_refl _)
  have go : ∀ (T : String) (items : List Value), (T = "list" ∨ T = "tuple") → Vals (its.map V.str) items → (∃ o, s.heap.get? l = some o ∧ o.cls = .type T ∧ ∃ n, o.data = .seq items.toArray n) →
      wpAny (model X.prog X.w) X.A (call (.type "set") [.ref l]) (EP X pins σ Q) X.xe s := fun T items hT rv ho => by
    obtain ⟨z1, z2⟩ := strs_vals rv
    refine call_setS (P := X.prog) (w := X.w) hT its (I.ok.hd hc) ho (fun i v e => z2 i v (by simpa using e)) (by simpa using z1) few (by omega) fun h' tk L R g k => ?_
    refine ⟨.ref s.heap.objs.size, _, I.laid (t' := tk) k (Nat.le_refl _) (setS_laid R), rfl, q _ L n (fun r hr => List.mem_of_mem_take (g.sub r hr)) (fun r hr => g.all r (by rw [List.take_length]; exact hr)) g.len R.nd⟩
  rcases hl with hl | hl
  · obtain ⟨items, rv, pl, _⟩ := I.list hl
    exact go "list" items (.inl rfl) rv pl.isList
  · obtain ⟨items, rv, ⟨o, ho, hc', n', hd⟩, _⟩ := I.tuple hl
    exact go "tuple" items (.inr rfl) rv ⟨o, ho, hc', n', hd⟩
def rSortS (P : Program) (w : World) : List V → Hp → VK → Prop := fun xs H Q => ∃ (a : Addr) (L : List Str), xs = [V.ref a] ∧ H a = some (SetSO P w a L) ∧ L.length ≤ 63 ∧ AllAlike (L.map PyData.str) ∧ Sortable (L.map PyData.str) ∧
  ∀ (L' : List Str) (p : Addr), L'.Perm L → L'.Nodup → L'.Pairwise (fun q r => dataLe false PyData.str q r = true) → H p = none → Q (.ref p) (upd H p (.lst (L'.map V.str)))
theorem cr_sortS (hc : X.calm = true) (hu : X.A.units + 64 < cLine) : CallR X (.builtin "sorted") (rSortS X.prog X.w) := by
  rintro pins s σ H xs us Q I r ⟨a, L, rfl, ha, few, hal, hso, q⟩
  have R : SetS X.prog X.w s.heap a L := (show ObjOk X.prog X.w H s.heap a (SetSO X.prog X.w a L) from I.hok a _ ha).1
  rw [Vals.ref1 r]
  refine sortedS R (I.ok.hd hc) (by omega) hal hso fun s' p out c L' k g o hp hg hout pm pw => ?_
  have few : L'.length ≤ 63 := by rw [pm.length_eq]; exact few
  have n : H p = none := I.hok.fresh hp
  obtain ⟨vs, e1, e2, e3⟩ := hout
  have hv : Vals (L'.map V.str) out.toList := by
    rw [e1, ← e2]
    exact vals_strs vs e3
  have J : Inv X pins σ (upd H p (.lst (L'.map V.str))) { s with heap := s'.heap, gens := s'.gens, drawn := s'.drawn, toks := s'.toks } :=
    I.call (ch := []) (Un.laid k hp n) (I.hok.laid k hp ⟨by rw [List.length_map, sizeLine_eq]; omega, out.toList, c, hv, hg⟩) (by rw [g]; exact I.bare) (fun _ z => nomatch z)
  have e : s' = { s with heap := s'.heap, gens := s'.gens, drawn := s'.drawn, toks := s'.toks } := by
    cases s'
    cases s
    cases o
    rfl
  rw [e]
  exact ⟨.ref p, _, J, rfl, q L' p pm (pm.nodup_iff.mpr R.nd) pw n⟩
end
end Dw
set_option Elab.async false
set_option linter.all false
set_option maxRecDepth 100000
set_option maxHeartbeats 4000000
/-! DwT3: sorted(set(x)) over data. -/
namespace Dw
open PySem PySem.Spec PyProof.Rows L2 PySem.W PySem.Calls

def Set4O (P : Program) (w : World) (a : Addr) (L : List (Addr × List Key)) : HO := .ext fun h => ∃ (es : Array (Int × Value)) (ep : Nat) (t : SetTable), (∃ o, h.get? a = some o ∧ o.ExactSet ∧ o.data = .set es ep t) ∧ es.toList = rows4 P w L ∧
  TabOk t (hs4 P w L) ∧ (L.map (·.2)).Nodup ∧ (w.params.followText "set-order" = true ∨ t.led = true) ∧ L.length * 5 < t.mask * 3 ∧ L.length < 64
theorem set4_laid {P : Program} {w : World} {H : Hp} {h : Heap} {a : Addr} {L : List (Addr × List Key)} {es : Array (Int × Value)} {ep : Nat} {t : SetTable} (R : Set4 P w h a L es ep t) : ObjOk P w H h a (Set4O P w a L) := by
  obtain ⟨o, ho, r⟩ := R.ob
  refine ⟨⟨es, ep, t, ⟨o, ho, r⟩, R.rows, R.tab, R.nd, R.led, R.room, R.few⟩, ⟨o, ho⟩, ?_⟩
  rintro h1 h2 ⟨es', ep', t', ⟨o', ho', r'⟩, q'⟩ k
  exact ⟨es', ep', t', ⟨o', k o' ho', r'⟩, q'⟩
section
variable {X : Cx} {pins : List (Addr × Obj)} {σ : L2.St} {H : Hp} {s : Shared}
theorem kt_of (I : Inv X pins σ H s) {b : Addr} {ks : List Key} (h : SqT X.K H b (ks.map kV)) : KT X.prog X.w s.heap ks b := by
  obtain ⟨its, r, ⟨o, ho, hc, n, hd⟩, _⟩ := I.tuple h
  exact ⟨o, its.toArray, n, ho, hc, hd, by simpa using items_are r⟩
theorem refs_vals : ∀ {its : List (Addr × List Key)} {us : List Value}, Vals (its.map fun q => V.ref q.1) us → us = its.map fun q => Value.ref q.1
  | [], _, .nil => rfl
  | q :: its, _, .cons r t => by
    cases r
    rw [refs_vals t, List.map_cons]
theorem vals_refs : ∀ its : List (Addr × List Key), Vals (its.map fun q => V.ref q.1) (its.map fun q => Value.ref q.1)
  | [] => .nil
  | q :: its => .cons rfl (vals_refs its)
def rSet4 (K : PySem.W.Frag) (P : Program) (w : World) : List V → Hp → VK → Prop := fun xs H Q => ∃ (l : Addr) (its : List (Addr × List Key)), xs = [V.ref l] ∧ (SqL K H l (its.map fun q => V.ref q.1) ∨ SqT K H l (its.map fun q => V.ref q.1)) ∧
  (∀ q ∈ its, SqT K H q.1 (q.2.map kV)) ∧ its.length < 63 ∧ ∀ a L, H a = none → (∀ q ∈ L, q ∈ its) → (∀ q ∈ its, q.2 ∈ L.map (·.2)) → Q (.ref a) (upd H a (Set4O P w a L))
theorem cr_set4 (hc : X.calm = true) (hu : X.A.units + 64 < cLine) : CallR X (.type "set") (rSet4 X.K X.prog X.w) := by
  rintro pins s σ H xs us Q I r ⟨l, its, rfl, hl, hk, few, q⟩
  rw [Vals.ref1 r]
  have n : H s.heap.objs.size = none := I.hok.fresh (Nat.le_refl _)
  have go : ∀ (T : String) (items : List Value), (T = "list" ∨ T = "tuple") → Vals (its.map fun q => V.ref q.1) items → (∃ o, s.heap.get? l = some o ∧ o.cls = .type T ∧ ∃ n, o.data = .seq items.toArray n) →
      wpAny (model X.prog X.w) X.A (call (.type "set") [.ref l]) (EP X pins σ Q) X.xe s := fun T items hT rv ho => by
    refine call_set4 (P := X.prog) (w := X.w) hT its (I.ok.hd hc) ho (by simpa using refs_vals rv) (fun q hq => kt_of I (hk q hq)) few (by omega) fun h' tk L es ep t R g k => ?_
    refine ⟨.ref s.heap.objs.size, _, I.laid (t' := tk) k (Nat.le_refl _) (set4_laid R), rfl, q _ L n (fun r hr => List.mem_of_mem_take (g.sub r hr)) fun r hr => g.all r (by rw [List.take_length]; exact hr)⟩
  rcases hl with hl | hl
  · obtain ⟨items, rv, pl, _⟩ := I.list hl
    exact go "list" items (.inl rfl) rv pl.isList
  · obtain ⟨items, rv, ⟨o, ho, hc', n', hd⟩, _⟩ := I.tuple hl
    exact go "tuple" items (.inr rfl) rv ⟨o, ho, hc', n', hd⟩
def rSort4 (K : PySem.W.Frag) (P : Program) (w : World) : List V → Hp → VK → Prop := fun xs H Q => ∃ (a : Addr) (L : List (Addr × List Key)), xs = [V.ref a] ∧ H a = some (Set4O P w a L) ∧ (∀ q ∈ L, SqT K H q.1 (q.2.map kV)) ∧ AllAlike (L.map encK) ∧ Sortable (L.map encK) ∧
  ∀ (L' : List (Addr × List Key)) (p : Addr), L'.Perm L → (L'.map (·.2)).Nodup → L'.length < 64 → L'.Pairwise (fun q r => dataLe false encK q r = true) → H p = none → Q (.ref p) (upd H p (.lst (L'.map fun q => V.ref q.1)))
theorem cr_sort4 (hc : X.calm = true) (hu : X.A.units + 64 < cLine) : CallR X (.builtin "sorted") (rSort4 X.K X.prog X.w) := by
  rintro pins s σ H xs us Q I r ⟨a, L, rfl, ha, hk, hal, hso, q⟩
  obtain ⟨es, ep, t, ob, h1, h2, h3, h4, h5, h6⟩ := (show ObjOk X.prog X.w H s.heap a (Set4O X.prog X.w a L) from I.hok a _ ha).1
  have R : Set4 X.prog X.w s.heap a L es ep t := ⟨ob, h1, h2, h3, fun q hq => kt_of I (hk q hq), h4, h5, h6⟩
  rw [Vals.ref1 r]
  refine sorted4 R (I.ok.hd hc) (by omega) hal hso fun s' p out c L' k g o hp hg hout pm pw => ?_
  have few : L'.length < 64 := by rw [pm.length_eq]; exact h6
  have n : H p = none := I.hok.fresh hp
  have hv : Vals (L'.map fun q => V.ref q.1) out.toList := by rw [hout]; exact vals_refs L'
  have J : Inv X pins σ (upd H p (.lst (L'.map fun q => V.ref q.1))) { s with heap := s'.heap, gens := s'.gens, drawn := s'.drawn, toks := s'.toks } :=
    I.call (ch := []) (Un.laid k hp n) (I.hok.laid k hp ⟨by rw [List.length_map, sizeLine_eq]; omega, out.toList, c, hv, hg⟩) (by rw [g]; exact I.bare) (fun _ z => nomatch z)
  have e : s' = { s with heap := s'.heap, gens := s'.gens, drawn := s'.drawn, toks := s'.toks } := by
    cases s'
    cases s
    cases o
    rfl
  rw [e]
  exact ⟨.ref p, _, J, rfl, q L' p pm ((pm.map (·.2)).nodup_iff.mpr h3) few pw n⟩
end
/-! ### over data -/
def kD : Key → D
  | .inl i => .int i
  | .inr x => .str x.cps.toList
def tupD (q : Addr × List Key) : D := .tup (q.2.map kD)
theorem lexL_total : ∀ x y : List Nat, lexL x y = false → lexL y x = false → x = y
  | [], [], _, _ => rfl
  | [], _ :: _, h, _ => by cases h
  | _ :: _, [], _, h => by cases h
  | x :: xs, y :: ys, h1, h2 => by
    by_cases e : x = y
    · subst e
      simp only [lexL, if_true] at h1 h2
      rw [lexL_total xs ys h1 h2]
    · simp only [lexL, if_neg e, if_neg (fun z : y = x => e z.symm), decide_eq_false_iff_not] at h1 h2
      omega
theorem pair_ltD (a b a' b' : List Nat) : ltD (.tup [.str a, .str b]) (.tup [.str a', .str b']) = if a = a' then (if b = b' then false else lexL b b') else lexL a a' := by
  by_cases e : a = a'
  · subst e
    rw [if_pos rfl]
    have s1 : ltD (.tup [.str a, .str b]) (.tup [.str a, .str b']) = ltDs [.str b] [.str b'] := if_pos (show (a == a) = true by simp)
    rw [s1]
    by_cases f : b = b'
    · subst f
      rw [if_pos rfl]
      exact if_pos (show (b == b) = true by simp)
    · rw [if_neg f]
      exact if_neg (show ¬(b == b') = true by simpa using f)
  · rw [if_neg e]
    exact if_neg (show ¬(a == a') = true by simpa using e)
/-- the pair of two texts -/
def Two (q : Addr × List Key) : Prop := ∃ x y : List Nat, q.2 = [.inr (mkS x), .inr (mkS y)]
theorem two_d {q : Addr × List Key} {x y : List Nat} (h : q.2 = [.inr (mkS x), .inr (mkS y)]) : tupD q = .tup [.str x, .str y] := by
  unfold tupD
  rw [h]
  rfl
theorem two_py {q : Addr × List Key} {x y : List Nat} (h : q.2 = [.inr (mkS x), .inr (mkS y)]) : encK q = toPy (.tup [.str x, .str y]) := by
  unfold encK
  rw [h]
  simp only [List.map_cons, List.map_nil, kPy, toPy, toPys]
theorem two_lt {q r : Addr × List Key} (h1 : Two q) (h2 : Two r) (ne : q.2 ≠ r.2) (le : dataLe false encK q r = true) : ltD (tupD q) (tupD r) = true := by
  obtain ⟨x, y, e1⟩ := h1
  obtain ⟨x', y', e2⟩ := h2
  have al : ∀ a b a' b' : List Nat, alikeD (.tup [.str a, .str b]) (.tup [.str a', .str b']) = true := fun _ _ _ _ => by simp [alikeD, alikeDs]
  have pl : ∀ a b : List Nat, plainD (.tup [.str a, .str b]) = true := fun _ _ => rfl
  rw [PySem.W.dataLe_eq] at le
  have le : (!PySem.W.dataLt (encK r) (encK q)) = true := le
  rw [two_py e1, two_py e2, lt_py _ _ (pl _ _) (pl _ _) (al _ _ _ _), Bool.not_eq_true'] at le
  rw [two_d e1, two_d e2]
  cases hlt : ltD (.tup [.str x, .str y]) (.tup [.str x', .str y']) with
  | true => rfl
  | false =>
    exfalso
    rw [pair_ltD] at le hlt
    by_cases ex : x = x'
    · subst ex
      rw [if_pos rfl] at le hlt
      by_cases ey : y = y'
      · subst ey
        exact ne (e1.trans e2.symm)
      · rw [if_neg ey] at hlt
        rw [if_neg fun z => ey z.symm] at le
        exact ey (lexL_total _ _ hlt le)
    · rw [if_neg ex] at hlt
      rw [if_neg fun z => ex z.symm] at le
      exact ex (lexL_total _ _ hlt le)
theorem its_of {G : Gm} {H : Hp} {M : DM} : ∀ {xs : List V} {ds : List D}, Rps G H M xs ds → (∀ d ∈ ds, ∃ x y, d = .tup [.str x, .str y]) →
    ∃ its : List (Addr × List Key), xs = its.map (fun q => V.ref q.1) ∧ ds = its.map tupD ∧ (∀ q ∈ its, SqT G.K H q.1 (q.2.map kV)) ∧ (∀ q ∈ its, Two q) ∧ ∀ q ∈ its, Rp G H M (.ref q.1) (tupD q)
  | [], [], .nil, _ => ⟨[], rfl, rfl, (fun _ z => nomatch z), (fun _ z => nomatch z), fun _ z => nomatch z⟩
  | v :: xs, d :: ds, .cons a r, h => by
    obtain ⟨its, e1, e2, h1, h2, h3⟩ := its_of r fun d hd => h d (List.mem_cons_of_mem _ hd)
    obtain ⟨x, y, rfl⟩ := h d (by simp)
    have a0 := a
    obtain ⟨b, zs, rfl, hs, _, rz⟩ := a.inv_tup
    have ez : zs = [.str (mkS x), .str (mkS y)] := by
      cases rz with
      | cons q1 rz =>
        cases rz with
        | cons q2 rz =>
          cases rz
          rw [q1.inv_str.1, q2.inv_str.1]
    subst ez
    refine ⟨(b, [.inr (mkS x), .inr (mkS y)]) :: its, by rw [List.map_cons, e1], by rw [List.map_cons, ← e2]; rfl, fun q hq => ?_, fun q hq => ?_, fun q hq => ?_⟩
    · rcases List.mem_cons.mp hq with rfl | hq
      · exact hs
      · exact h1 q hq
    · rcases List.mem_cons.mp hq with rfl | hq
      · exact ⟨x, y, rfl⟩
      · exact h2 q hq
    · rcases List.mem_cons.mp hq with rfl | hq
      · exact a0
      · exact h3 q hq
theorem rps_refs {G : Gm} {H : Hp} {M : DM} : ∀ {L : List (Addr × List Key)}, (∀ q ∈ L, Rp G H M (.ref q.1) (tupD q)) → Rps G H M (L.map fun q => V.ref q.1) (L.map tupD)
  | [], _ => .nil
  | q :: L, h => .cons (h q (by simp)) (rps_refs fun r hr => h r (List.mem_cons_of_mem _ hr))
/-- the text of a key -/
def sD (q : Str) : D := .str q.cps.toList
theorem str_lt {q r : Str} (h1 : ∃ x, q = mkS x) (h2 : ∃ x, r = mkS x) (ne : q ≠ r) (le : dataLe false PyData.str q r = true) : ltD (sD q) (sD r) = true := by
  obtain ⟨x, rfl⟩ := h1
  obtain ⟨y, rfl⟩ := h2
  have pl : ∀ a : List Nat, plainD (.str a) = true := fun _ => rfl
  have al : ∀ a b : List Nat, alikeD (.str a) (.str b) = true := fun _ _ => by simp [alikeD]
  rw [PySem.W.dataLe_eq] at le
  have le : (!PySem.W.dataLt (PyData.str (mkS y)) (PyData.str (mkS x))) = true := le
  have le : (!PySem.W.dataLt (toPy (.str y)) (toPy (.str x))) = true := by simpa only [toPy] using le
  rw [lt_py _ _ (pl _) (pl _) (al _ _), Bool.not_eq_true'] at le
  show lexL x y = true
  cases hlt : lexL x y with
  | true => rfl
  | false =>
    exfalso
    exact ne (by rw [lexL_total x y hlt le])
theorem txt_of {G : Gm} {H : Hp} {M : DM} : ∀ {xs : List V} {ds : List D}, Rps G H M xs ds → (∀ d ∈ ds, ∃ x, d = .str x) →
    ∃ its : List Str, xs = its.map V.str ∧ ds = its.map sD ∧ (∀ q ∈ its, ∃ x, q = mkS x) ∧ ∀ q ∈ its, Rp G H M (.str q) (sD q)
  | [], [], .nil, _ => ⟨[], rfl, rfl, (fun _ z => nomatch z), fun _ z => nomatch z⟩
  | v :: xs, d :: ds, .cons a r, h => by
    obtain ⟨its, e1, e2, h1, h2⟩ := txt_of r fun d hd => h d (List.mem_cons_of_mem _ hd)
    obtain ⟨x, rfl⟩ := h d (by simp)
    have a0 := a
    obtain ⟨rfl, _⟩ := a.inv_str
    refine ⟨mkS x :: its, by rw [List.map_cons, e1], by rw [List.map_cons, ← e2]; rfl, fun q hq => ?_, fun q hq => ?_⟩
    · rcases List.mem_cons.mp hq with rfl | hq
      · exact ⟨x, rfl⟩
      · exact h1 q hq
    · rcases List.mem_cons.mp hq with rfl | hq
      · exact a0
      · exact h2 q hq
theorem rps_txt {G : Gm} {H : Hp} {M : DM} : ∀ {L : List Str}, (∀ q ∈ L, Rp G H M (.str q) (sD q)) → Rps G H M (L.map V.str) (L.map sD)
  | [], _ => .nil
  | q :: L, h => .cons (h q (by simp)) (rps_txt fun r hr => h r (List.mem_cons_of_mem _ hr))
theorem callr_or {X : Cx} {f : Value} {R1 R2 : List V → Hp → VK → Prop} (h1 : CallR X f R1) (h2 : CallR X f R2) : CallR X f fun xs H Q => R1 xs H Q ∨ R2 xs H Q := by
  intro pins s σ H xs us Q I r h
  rcases h with h | h
  · exact h1 pins s σ H xs us Q I r h
  · exact h2 pins s σ H xs us Q I r h
section
variable {X : Cx} {W : WX} {c : Sc} {k : Nat} {C : Calls}
theorem de_sst {e : Expr} {p1 p2 q1 q2 : Pos} {t : DTE} (ok : CtxOk X W c k C) (b1 : c.blts.contains "sorted" = true) (g1 : glB c "sorted" = true) (b2 : c.blts.contains "set" = true) (g2 : glB c "set" = true) (ns : notStar e = true) (h : DE X W e t) :
    DE X W (.Call (.Name "sorted" p1) [.Call (.Name "set" p2) [e] [] q2] [] q1) fun δ M Qx Q => t δ M Qx fun x M1 => sstP x M1 Q := by
  have hu : X.A.units + 64 < cLine := by have := ok.hr.un; omega
  have inner : PE X (.Call (.Name "set" p2) [e] [] q2) (tCB (fun xs H Q => rSet4 X.K X.prog X.w xs H Q ∨ rSetS X.K X.prog X.w xs H Q) (tCons (up (gm X) W t) tNil)) :=
    pe_callTy (callr_or (cr_set4 ok.calm hu) (cr_setS ok.calm hu)) (ok.gl g2) (ok.blt _ (List.contains_iff_mem.mp b2)) (by decide +kernel) (pa_cons h pa_nil (star_cons ns)) (by decide) (by decide) (star_cons ns) rfl
  refine pe_wk (pe_callB (callr_fz (callr_or (cr_sort4 ok.calm hu) (cr_sortS ok.calm hu))) (ok.gl g1) (ok.blt _ (List.contains_iff_mem.mp b1)) (by decide +kernel) (pa_cons inner pa_nil (star_cons rfl)) (by decide) (by decide) (star_cons rfl) rfl) ?_
  rintro σ H Qv ⟨δ, M, Q, Qx, rm, rs, q, w, wx⟩
  refine ⟨δ, M, _, Qx, rm, rs, q, fun v H1 ⟨d, M1, e1, rm1, a1, qd⟩ => ?_, wx⟩
  have goS : ∀ (l : Addr) (xs : List V) (ds : List D), v = .ref l → (SqL X.K H1 l xs ∨ SqT X.K H1 l xs) → Rps (gm X) H1 M1 xs ds → ds.length < 63 → (∀ d ∈ ds, ∃ x, d = .str x) → (∀ es, SSet ds es → Q (.lst es) M1) →
      rSetS X.K X.prog X.w [v] H1 fun y H2 => (rSort4 X.K X.prog X.w [y] H2 (FQ Qv) ∨ rSortS X.prog X.w [y] H2 (FQ Qv)) := by
    rintro l xs ds rfl hl r few txt hq
    obtain ⟨its, rfl, rfl, h2, h3⟩ := txt_of r txt
    refine ⟨l, its, rfl, hl, by simpa using few, fun a L n sub all len nd => .inr ?_⟩
    have ext : Ext0 X.K H1 M1 (upd H1 a (SetSO X.prog X.w a L)) M1 := (Ext.new n).toExt0
    have al : AllAlike (L.map PyData.str) := by
      intro d hd d' hd'
      obtain ⟨q, hq, rfl⟩ := List.mem_map.mp hd
      obtain ⟨r, hr, rfl⟩ := List.mem_map.mp hd'
      obtain ⟨x, rfl⟩ := h2 q (sub q hq)
      obtain ⟨y, rfl⟩ := h2 r (sub r hr)
      have := alike_py (.str x) (.str y) (by simp [alikeD])
      simpa only [toPy] using this
    refine ⟨a, L, rfl, upd_same, by have : (its.map sD).length < 63 := few; rw [List.length_map] at this; omega, al, .inr fun d hd => ?_, fun L' p pm nd pw n' => ?_⟩
    · obtain ⟨q, hq, rfl⟩ := List.mem_map.mp hd
      exact ⟨fun e => (nomatch e), fun xs e => (nomatch e)⟩
    · have sub' : ∀ q ∈ L', q ∈ its := fun q hq => sub q (pm.mem_iff.mp hq)
      have rm2 : RM (gm X) (upd H1 a (SetSO X.prog X.w a L)) M1 := rm1.new n
      have rps : Rps (gm X) (upd H1 a (SetSO X.prog X.w a L)) M1 (L'.map V.str) (L'.map sD) := rps_txt fun q hq => (h3 q (sub' q hq)).mono ext
      have ss : SSet (its.map sD) (L'.map sD) := by
        refine ⟨List.pairwise_map.mpr ?_, fun d => ⟨fun hd => ?_, fun hd => ?_⟩⟩
        · exact List.Pairwise.imp_of_mem (fun {q r} hq hr z => str_lt (h2 q (sub' q hq)) (h2 r (sub' r hr)) z.1 z.2) (List.Pairwise.and nd pw)
        · obtain ⟨q, hq, rfl⟩ := List.mem_map.mp hd
          exact List.mem_map.mpr ⟨q, sub' q hq, rfl⟩
        · obtain ⟨q, hq, rfl⟩ := List.mem_map.mp hd
          exact List.mem_map.mpr ⟨q, pm.mem_iff.mpr (all q hq), rfl⟩
      exact lqLst rm2 rps (by rw [List.length_map, pm.length_eq, sizeLine_eq]; have : (its.map sD).length < 63 := few; rw [List.length_map] at this; omega) n' (hq _ ss) fun v H' z => w v H' ((z.then (Ext.new n)).then e1)
  have go : ∀ (l : Addr) (xs : List V) (ds : List D), v = .ref l → (SqL X.K H1 l xs ∨ SqT X.K H1 l xs) → Rps (gm X) H1 M1 xs ds → ds.length < 63 → (∀ d ∈ ds, ∃ x y, d = .tup [.str x, .str y]) → (∀ es, SSet ds es → Q (.lst es) M1) →
      rSet4 X.K X.prog X.w [v] H1 fun y H2 => (rSort4 X.K X.prog X.w [y] H2 (FQ Qv) ∨ rSortS X.prog X.w [y] H2 (FQ Qv)) := by
    rintro l xs ds rfl hl r few two hq
    obtain ⟨its, rfl, rfl, h1, h2, h3⟩ := its_of r two
    refine ⟨l, its, rfl, hl, h1, by simpa using few, fun a L n sub all => .inl ?_⟩
    have ext : Ext0 X.K H1 M1 (upd H1 a (Set4O X.prog X.w a L)) M1 := (Ext.new n).toExt0
    have al : AllAlike (L.map encK) := by
      intro d hd d' hd'
      obtain ⟨q, hq, rfl⟩ := List.mem_map.mp hd
      obtain ⟨r, hr, rfl⟩ := List.mem_map.mp hd'
      obtain ⟨x, y, e⟩ := h2 q (sub q hq)
      obtain ⟨x', y', e'⟩ := h2 r (sub r hr)
      rw [two_py e, two_py e']
      exact alike_py _ _ (by simp [alikeD, alikeDs])
    refine ⟨a, L, rfl, upd_same, fun q hq => ext.t _ _ (h1 q (sub q hq)), al, .inl fun d hd => ?_, fun L' p pm nd few' pw n' => ?_⟩
    · obtain ⟨q, hq, rfl⟩ := List.mem_map.mp hd
      obtain ⟨x, y, e⟩ := h2 q (sub q hq)
      exact ⟨_, _, by rw [encK, e]; rfl⟩
    · have sub' : ∀ q ∈ L', q ∈ its := fun q hq => sub q (pm.mem_iff.mp hq)
      have rm2 : RM (gm X) (upd H1 a (Set4O X.prog X.w a L)) M1 := rm1.new n
      have rps : Rps (gm X) (upd H1 a (Set4O X.prog X.w a L)) M1 (L'.map fun q => V.ref q.1) (L'.map tupD) := rps_refs fun q hq => (h3 q (sub' q hq)).mono ext
      have ss : SSet (its.map tupD) (L'.map tupD) := by
        refine ⟨List.pairwise_map.mpr ?_, fun d => ⟨fun hd => ?_, fun hd => ?_⟩⟩
        · refine List.Pairwise.imp_of_mem (fun {q r} hq hr z => two_lt (h2 q (sub' q hq)) (h2 r (sub' r hr)) z.1 z.2) (List.Pairwise.and (List.pairwise_map.mp nd) pw)
        · obtain ⟨q, hq, rfl⟩ := List.mem_map.mp hd
          exact List.mem_map.mpr ⟨q, sub' q hq, rfl⟩
        · obtain ⟨q, hq, rfl⟩ := List.mem_map.mp hd
          obtain ⟨r, hr, e⟩ := List.mem_map.mp (all q hq)
          exact List.mem_map.mpr ⟨r, pm.mem_iff.mpr hr, by unfold tupD; rw [e]⟩
      exact lqLst rm2 rps (by rw [List.length_map, sizeLine_eq]; omega) n' (hq _ ss) fun v H' z => w v H' ((z.then (Ext.new n)).then e1)
  cases d with
  | lst ds =>
    obtain ⟨l, xs, rfl, hs, z, r⟩ := a1.inv_lst
    rcases qd.1.2 with two | txt
    · exact .inl (go l xs ds rfl (.inl (.inl hs)) r qd.1.1 two qd.2)
    · exact .inr (goS l xs ds rfl (.inl (.inl hs)) r qd.1.1 txt qd.2)
  | tup ds =>
    obtain ⟨l, xs, rfl, hs, z, r⟩ := a1.inv_tup
    rcases qd.1.2 with two | txt
    · exact .inl (go l xs ds rfl (.inr hs) r qd.1.1 two qd.2)
    · exact .inr (goS l xs ds rfl (.inr hs) r qd.1.1 txt qd.2)
  | _ => exact qd.elim
theorem rps_rg {G : Gm} {H : Hp} {M : DM} (n : Int) : Rps G H M (rgV 0 n) (rangeD 0 n.toNat) := by
  have all : ∀ l : List Nat, Rps G H M (l.map fun (i : Nat) => V.int (0 + (i : Int))) (l.map fun (i : Nat) => D.int (0 + (i : Int))) := fun l => by
    induction l with
    | nil => exact .nil
    | cons i l ih => exact .cons (.int _) ih
  have e : (n - 0).toNat = n.toNat := by rw [Int.sub_zero]
  unfold rgV rangeD
  rw [e]
  exact all _
theorem de_trg {e : Expr} {p1 p2 q1 q2 : Pos} {t : DTE} (ok : CtxOk X W c k C) (b1 : c.blts.contains "tuple" = true) (g1 : glB c "tuple" = true) (b2 : c.blts.contains "range" = true) (g2 : glB c "range" = true) (ns : notStar e = true) (h : DE X W e t) :
    DE X W (.Call (.Name "tuple" p1) [.Call (.Name "range" p2) [e] [] q2] [] q1) fun δ M Qx Q => t δ M Qx fun x M1 => res (trgR true x) M1 Q := by
  refine pe_wk (pe_tupRg ok.calm (ok.gl g1) (ok.blt _ (List.contains_iff_mem.mp b1)) (prg_1 (ok.gl g2) (ok.blt _ (List.contains_iff_mem.mp b2)) h (star_cons ns)) (star_cons rfl)) ?_
  rintro σ H Qv ⟨δ, M, Q, Qx, rm, rs, q, w, wx⟩
  refine ⟨δ, M, _, Qx, rm, rs, q, fun v H1 ⟨d, M1, e1, rm1, a1, qd⟩ => ?_, wx⟩
  cases d with
  | int n =>
    obtain rfl := a1.inv_int
    obtain ⟨⟨z1, z2, z3⟩, q2⟩ := qd
    rw [sizeLine_eq] at z3
    refine ⟨n, rfl, ⟨by omega, by omega, z1, z2, by rw [Int.sub_zero]; exact z3⟩, fun p np => ?_⟩
    exact lqTup rm1 (rps_rg n) (by simp only [rangeD, List.length_map, List.length_range]; rw [sizeLine_eq]; exact z3) np q2 fun v H' z => w v H' (z.then e1)
  | _ => exact qd.elim
theorem de_lrg {e : Expr} {p1 p2 q1 q2 : Pos} {t : DTE} (ok : CtxOk X W c k C) (b1 : c.blts.contains "list" = true) (g1 : glB c "list" = true) (b2 : c.blts.contains "range" = true) (g2 : glB c "range" = true) (ns : notStar e = true) (h : DE X W e t) :
    DE X W (.Call (.Name "list" p1) [.Call (.Name "range" p2) [e] [] q2] [] q1) fun δ M Qx Q => t δ M Qx fun x M1 => res (trgR false x) M1 Q := by
  refine pe_wk (pe_fz (pe_listRg ok.calm (ok.gl g1) (ok.blt _ (List.contains_iff_mem.mp b1)) (prg_1 (ok.gl g2) (ok.blt _ (List.contains_iff_mem.mp b2)) h (star_cons ns)) (star_cons rfl))) ?_
  rintro σ H Qv ⟨δ, M, Q, Qx, rm, rs, q, w, wx⟩
  refine ⟨δ, M, _, Qx, rm, rs, q, fun v H1 ⟨d, M1, e1, rm1, a1, qd⟩ => ?_, wx⟩
  cases d with
  | int n =>
    obtain rfl := a1.inv_int
    obtain ⟨⟨z1, z2, z3⟩, q2⟩ := qd
    rw [sizeLine_eq] at z3
    refine ⟨n, rfl, ⟨by omega, by omega, z1, z2, by rw [Int.sub_zero]; exact z3⟩, fun p np => ?_⟩
    exact lqLst rm1 (rps_rg n) (by simp only [rangeD, List.length_map, List.length_range]; rw [sizeLine_eq]; exact z3) np q2 fun v H' z => w v H' (z.then e1)
  | _ => exact qd.elim
end
end Dw
set_option Elab.async false
set_option linter.all false
set_option maxRecDepth 100000
set_option maxHeartbeats 4000000
/-! DwT4: slices of tuples with a step; dicts written out; a text split. -/
namespace Dw
open PySem PySem.Spec PyProof.Rows L2
section
variable {P : Program} {w : World} {A : Around} {E : Value → Shared → Prop} {s : Shared}
theorem slice_parts {sl : Addr} {vl vu vs : Value} {lo hi : Option Int} {st : Int} {n : Nat} {Q : Int × Int × Nat → Shared → Prop} (hs : s.heap.IsSliceOf sl vl vu vs) (pl : IsPart vl lo) (pu : IsPart vu hi) (ps : IsPart vs (some st)) (h0 : st ≠ 0)
    (h : Q ((Builtin.Slice.sliceAdjust lo hi st n).1, st, Builtin.Slice.slicePlaces (Builtin.Slice.sliceAdjust lo hi st n).1 (Builtin.Slice.sliceAdjust lo hi st n).2 st) s) : wpAny (model P w) A (Builtin.Slice.sliceApplied (.ref sl) (pure (n : Int))) Q E s := by
  obtain ⟨os, hos, hcs, hds⟩ := id hs
  unfold Builtin.Slice.sliceApplied Builtin.Slice.sliceFields
  refine wpAny_bind (wpAny_bind (wpAny_field hos hds (x := vl) rfl (wpAny_bind (wpAny_field hos hds (x := vu) rfl (wpAny_bind (wpAny_field hos hds (x := vs) rfl (wpAny_pure ?_)))))))
  refine wpAny_bind (HT.slicePart_ ps ?_)
  show wpAny _ _ (if (st == 0) = true then _ else _) _ _ s
  rw [if_neg (by simpa using h0)]
  refine wpAny_bind (HT.slicePart_ pl (wpAny_bind (HT.slicePart_ pu (wpAny_bind (wpAny_pure ?_)))))
  show wpAny _ _ (match Builtin.Slice.sliceAdjust lo hi st (n : Int) with | (lo, hi) => pure (lo, st, Builtin.Slice.slicePlaces lo hi st)) _ _ s
  generalize Builtin.Slice.sliceAdjust lo hi st (n : Int) = q at h ⊢
  exact wpAny_pure h
theorem getItem_tup_step {t sl : Addr} {items : Array Value} {vl vu vs : Value} {lo hi : Option Int} {st : Int} {Q : Value → Shared → Prop} (ht : IsTup s.heap t items) (hs : s.heap.IsSliceOf sl vl vu vs) (pl : IsPart vl lo) (pu : IsPart vu hi) (ps : IsPart vs (some st)) (h0 : st ≠ 0) (h1 : st ≠ 1)
    (hz : (stepD items.toList lo hi st).length ≤ sizeLine) (h : Q (.ref s.heap.objs.size) { s with heap := s.heap.push { cls := .type "tuple", data := .seq (stepD items.toList lo hi st).toArray } }) : wpAny (model P w) A (getItem (.ref t) (.ref sl)) Q E s := by
  obtain ⟨os, hos, hcs, hds⟩ := id hs
  have ty : s.TypeIs (.ref sl) "slice" := ⟨os, hos, hcs⟩
  unfold getItem
  try with_reducible refine wpAny_holding ?_
  first | refine wpAny_bind (wpAny_pure ?_) | skip
  refine wpAny_bind (wpAny_sequenceKey ht.typeIs (by decide) ?_)
  refine wpAny_bind (wpAny_callSpecial?_slot (name := Str.ofString "__getitem__") ht.typeIs PyProof.Rows.slot_tuple_getitem (wpAny_call_entry PyProof.Rows.slot_tuple_getitem ht.typeIs entry_tuple_getitem ?_ (args_tuple_getitem _ _)))
  refine wpAny_bind (m := Builtin.Tuple.tupleItemsOf (.ref t)) (tupleItemsOf_ ht ?_)
  refine wpAny_bind (wpAny_typeOf ty ?_)
  rw [if_pos (by decide)]
  refine wpAny_bind (slice_parts (n := items.size) hs pl pu ps h0 ?_)
  have e : ((List.range (Builtin.Slice.slicePlaces (Builtin.Slice.sliceAdjust lo hi st items.size).1 (Builtin.Slice.sliceAdjust lo hi st items.size).2 st)).filterMap fun (k : Nat) => items[((Builtin.Slice.sliceAdjust lo hi st items.size).1 + (k : Int) * st).toNat]?).toArray = (stepD items.toList lo hi st).toArray := by
    unfold stepD
    simp only [Array.length_toList, Array.getElem?_toList]
  have hno : ¬(((Builtin.Slice.sliceAdjust lo hi st items.size).1 == 0 && st == 1 && Builtin.Slice.slicePlaces (Builtin.Slice.sliceAdjust lo hi st items.size).1 (Builtin.Slice.sliceAdjust lo hi st items.size).2 st == items.size) = true) := fun z => by
    rw [Bool.and_eq_true, Bool.and_eq_true] at z
    exact h1 (eq_of_beq z.1.2)
  have room : sizeOk (.seq (stepD items.toList lo hi st).toArray) := by
    show (stepD items.toList lo hi st).toArray.size ≤ sizeLine
    rw [List.size_toArray]
    exact hz
  show wpAny _ _ (if ((Builtin.Slice.sliceAdjust lo hi st items.size).1 == 0 && st == 1 && Builtin.Slice.slicePlaces (Builtin.Slice.sliceAdjust lo hi st items.size).1 (Builtin.Slice.sliceAdjust lo hi st items.size).2 st == items.size) = true then _ else _) _ _ s
  rw [if_neg hno, e]
  first
    | exact wpAny_bind (m := Builtin.Tuple.tupleExact _) (wpAny_newObj_type (wpAny_pure ⟨_, rfl, wpAny_pure h⟩) room)
    | exact wpAny_bind (m := Builtin.Tuple.tupleExact _) (wpAny_newObj_type (wpAny_bind (wpAny_pure (wpAny_pure ⟨_, rfl, wpAny_pure h⟩))) room)
    | exact wpAny_bind (wpAny_bind (m := Builtin.Tuple.tupleExact _) (wpAny_newObj_type (wpAny_pure (wpAny_pure ⟨_, rfl, wpAny_pure h⟩)) room))
    | exact wpAny_bind (wpAny_bind (m := Builtin.Tuple.tupleExact _) (wpAny_newObj_type (wpAny_pure ⟨_, rfl, wpAny_pure h⟩) room))
end
/-- a part of a slice, written down: nothing, a number, a number with a sign -/
def litP : Option Expr → Option Int → Bool
  | none, none => true
  | some (.Constant (.int n) _ _), some i => decide ((n : Int) = i)
  | some (.UnaryOp .USub (.Constant (.int n) _ _) _), some i => decide (-(n : Int) = i)
  | _, _ => false
section
variable {X : Cx} {W : WX} {c : Sc} {k : Nat} {C : Calls}
theorem po_lit {e : Option Expr} {o : Option Int} (h : litP e o = true) : PO X e fun σ H Q => Q o H := by
  unfold litP at h
  split at h
  · exact po_none
  · rename_i n _ _ i
    rw [decide_eq_true_eq] at h
    subst h
    exact po_wk (po_some pe_int) fun σ H Q q => ⟨_, rfl, q⟩
  · rename_i n _ _ _ i
    rw [decide_eq_true_eq] at h
    subst h
    exact po_wk (po_some (pe_un un_neg pe_int)) fun σ H Q q => ⟨_, rfl, _, rfl, q⟩
  · cases h
theorem rps_step {G : Gm} {H : Hp} {M : DM} {xs : List V} {ds : List D} (r : Rps G H M xs ds) (lo hi : Option Int) (st : Int) : Rps G H M (stepD xs lo hi st) (stepD ds lo hi st) := by
  unfold stepD
  rw [r.length]
  generalize List.range _ = l
  induction l with
  | nil => exact .nil
  | cons j l ih =>
    rw [List.filterMap_cons, List.filterMap_cons]
    cases hd : ds[((Builtin.Slice.sliceAdjust lo hi st ds.length).1 + (j : Int) * st).toNat]? with
    | none =>
      have hx : xs[((Builtin.Slice.sliceAdjust lo hi st ds.length).1 + (j : Int) * st).toNat]? = none := by
        rw [List.getElem?_eq_none_iff] at hd ⊢
        rw [r.length]
        exact hd
      rw [hx]
      exact ih
    | some d =>
      obtain ⟨v, hv, a⟩ := r.get hd
      rw [hv]
      exact .cons a ih
theorem vals_step {xs : List V} {us : List Value} (r : Vals xs us) (lo hi : Option Int) (st : Int) : Vals (stepD xs lo hi st) (stepD us lo hi st) := by
  unfold stepD
  rw [r.length]
  generalize List.range _ = l
  induction l with
  | nil => exact .nil
  | cons j l ih =>
    rw [List.filterMap_cons, List.filterMap_cons]
    cases hd : xs[((Builtin.Slice.sliceAdjust lo hi st us.length).1 + (j : Int) * st).toNat]? with
    | none =>
      have hx : us[((Builtin.Slice.sliceAdjust lo hi st us.length).1 + (j : Int) * st).toNat]? = none := by
        rw [List.getElem?_eq_none_iff] at hd ⊢
        exact Nat.le_trans (Nat.le_of_eq r.length.symm) hd
      rw [hx]
      exact ih
    | some v =>
      obtain ⟨u, hu, a⟩ := Vals.get r hd
      rw [hu]
      exact .cons a ih
theorem de_stp {e : Expr} {elo ehi est : Option Expr} {olo ohi : Option Int} {st : Int} {p2 pos : Pos} {t : DTE} (h1 : litP elo olo = true) (h2 : litP ehi ohi = true) (h3 : litP est (some st) = true) (n0 : st ≠ 0) (n1 : st ≠ 1) (h : DE X W e t) (hs : est.isSome = true) :
    DE X W (.Subscript e (.Slice elo ehi est p2) pos) fun δ M Qx Q => t δ M Qx fun x M1 => res (stpR x olo ohi st) M1 Q := by
  obtain ⟨est, rfl⟩ := Option.isSome_iff_exists.mp hs
  refine pe_wk (t := fun σ H Q => up (gm X) W t σ H fun x H1 => ∃ a xs, x = .ref a ∧ SqT X.K H1 a xs ∧ (stepD xs olo ohi st).length ≤ sizeLine ∧ ∀ p, H1 p = none → Q (.ref p) (upd H1 p (.tup (stepD xs olo ohi st)))) ⟨fun pins s σ H Q I q => ?_⟩ ?_
  · refine Subscript_ (thn (h.run pins s σ H _ I q) fun v s1 ⟨x, H1, I1, r1, a, xs, ex, hx, hz, q⟩ => ?_)
    subst ex
    cases r1
    refine wpAny_Slice (thn ((po_lit h1).run pins s1 σ H1 (fun o H2 => o = olo ∧ H2 = H1) I1 ⟨rfl, rfl⟩) fun vl s2 ⟨l, H2, I2, pl, el, e2⟩ => ?_)
    subst el e2
    refine thn ((po_lit h2).run pins s2 σ H2 (fun o H3 => o = ohi ∧ H3 = H2) I2 ⟨rfl, rfl⟩) fun vu s3 ⟨u, H3, I3, pu, eu, e3⟩ => ?_
    subst eu e3
    refine thn ((po_lit h3).run pins s3 σ H3 (fun o H4 => o = some st ∧ H4 = H3) I3 ⟨rfl, rfl⟩) fun vs s4 ⟨o, H4, I4, ps, eo, e4⟩ => ?_
    subst eo e4
    have I5 : Inv X pins σ H4 { s4 with heap := s4.heap.push { cls := .type "slice", data := .fields #[vl, vu, vs] } } := I4.kept (t' := s4.toks) fun b ob q => Heap.get?_push_of_some _ q
    obtain ⟨its, r, ht, _⟩ := I5.tuple hx
    have rr := vals_step r l u st
    show wpAny (model X.prog X.w) X.A (subscriptTail e (.Slice elo ehi (some est) p2) (.ref a) (.ref s4.heap.objs.size)) (EP X pins σ Q) X.xe { s4 with heap := s4.heap.push { cls := .type "slice", data := .fields #[vl, vu, vs] } }
    refine tail_any (ops := [.ref a, .ref s4.heap.objs.size]) ht.typeIs (PyProof.Rows.slot_tuple_getitem.lookup) ?_ (by with_unfolding_all rfl)
    refine getItem_tup_step ht (Heap.IsSliceOf.new _ vl vu vs) pl pu ps n0 n1 (by rw [← rr.length]; exact hz) ?_
    refine ⟨.ref _, _, I5.laid (t' := s4.toks) (o := .tup (stepD xs l u st)) (fun b ob q => Heap.get?_push_of_some _ q) (Nat.le_refl _) ?_, rfl, q _ (I5.hok.fresh (Nat.le_refl _))⟩
    exact ⟨hz, _, rr, IsTup.new _ _⟩
  · rintro σ H Qv ⟨δ, M, Q, Qx, rm, rs, q, w, wx⟩
    refine ⟨δ, M, _, Qx, rm, rs, q, fun v H1 ⟨d, M1, e1, rm1, a1, q1⟩ => ?_, wx⟩
    cases d with
    | tup ds =>
      obtain ⟨a, xs, rfl, hx, z, r⟩ := a1.inv_tup
      have rr := rps_step r olo ohi st
      exact ⟨a, xs, rfl, hx, by rw [rr.length]; exact q1.1, fun p n => lqTup rm1 rr q1.1 n q1.2 fun v H' z => w v H' (z.then e1)⟩
    | _ => exact q1.elim
end
def okSB (l : List Nat) : Bool := decide (l.length ≤ 16777216) && l.all fun c => decide (c < 1114112)
theorem okS_by {l : List Nat} (h : okSB l = true) : okS l := by
  unfold okSB at h
  rw [Bool.and_eq_true] at h
  exact ⟨by rw [sizeLine_eq]; exact of_decide_eq_true h.1, fun c hc => of_decide_eq_true (List.all_eq_true.mp h.2 c hc)⟩
def litB : D → Expr → Bool
  | .int i, .Constant (.int j) _ _ => i == j
  | .bl a, .Constant (.bool b) _ _ => a == b
  | .non, .Constant .none _ _ => true
  | .str l, .Constant (.str s) _ _ => s.cps.toList == l && okSB l
  | _, _ => false
theorem pe_litT {X : Cx} {d : D} {x : Expr} (h : litB d x = true) : ∃ v, PE X x (tC v) ∧ ∀ G H M, Rp G H M v d := by
  unfold litB at h
  split at h
  · cases eq_of_beq h
    exact ⟨_, pe_int, fun _ _ _ => .int _⟩
  · cases eq_of_beq h
    exact ⟨_, pe_bl, fun _ _ _ => .bl _⟩
  · exact ⟨_, pe_non, fun _ _ _ => .non⟩
  · rename_i l s _ _
    rw [Bool.and_eq_true] at h
    have e : s = mkS l := by
      have e := eq_of_beq h.1
      cases s with
      | mk cps =>
        show Str.mk cps = Str.mk l.toArray
        rw [← e]
    subst e
    exact ⟨_, pe_str, fun _ _ _ => .str _ (okS_by h.2)⟩
  · cases h
/-! ### a dict written out -/
def dkD : Int ⊕ List Nat → D
  | .inl i => .int i
  | .inr l => .str l
def dltB : List ((Int ⊕ List Nat) × D) → List (Option Expr) → List Expr → Bool
  | [], [], [] => true
  | (k, d) :: r, some x :: ks, v :: vs => litB (dkD k) x && litB d v && dltB r ks vs
  | _, _, _ => false
theorem merge_new : ∀ (l acc : List (Key × V)), ((acc ++ l).map (·.1)).Nodup → mergeK acc l = acc ++ l
  | [], acc, _ => by rw [List.append_nil]; rfl
  | (k, v) :: l, acc, h => by
    have hk : valV acc k = none := by
      cases e : valV acc k with
      | none => rfl
      | some y =>
        exfalso
        unfold valV at e
        obtain ⟨p, hp, _⟩ := Option.map_eq_some_iff.mp e
        have hm := List.mem_of_find?_eq_some hp
        have hs := List.find?_some hp
        have hq : p.1 = k := by simpa using hs
        rw [List.map_append, List.nodup_append] at h
        exact h.2.2 p.1 (List.mem_map.mpr ⟨p, hm, rfl⟩) k (by simp) hq
    show mergeK (putK acc k v) l = _
    rw [putK_new v hk, merge_new l (acc ++ [(k, v)]) (by rw [List.append_assoc]; exact h), List.append_assoc]
    rfl
theorem pps_lit {X : Cx} {pos : Pos} : ∀ {kvs : List ((Int ⊕ List Nat) × D)} {ks : List (Option Expr)} {vs : List Expr}, dltB kvs ks vs = true →
    ∃ (trs : List (TE × TE)) (ws : List (Key × V)), PPs X pos ks vs trs ∧ ks.all (·.isSome) = true ∧ ks.length = kvs.length ∧ vs.length = kvs.length ∧ ws.map (·.1) = kvs.map (fun q => dkK q.1) ∧ (∀ G H M, Rps G H M (ws.map (·.2)) (kvs.map (·.2))) ∧
      ∀ σ H (Q : List (V × V) → Hp → Prop), Q (ws.map fun kv => (kV kv.1, kv.2)) H → tPairs trs σ H Q
  | [], [], [], _ => ⟨[], [], pps_nil, rfl, rfl, rfl, rfl, fun _ _ _ => .nil, fun _ _ _ q => q⟩
  | (k, d) :: r, some x :: ks, v :: vs, h => by
    unfold dltB at h
    rw [Bool.and_eq_true, Bool.and_eq_true] at h
    obtain ⟨trs, ws, p, h1, h2, h3, h4, h5, h6⟩ := pps_lit (X := X) (pos := pos) h.2
    obtain ⟨vk, pk, rk⟩ := pe_litT (X := X) h.1.1
    obtain ⟨vd, pd, rd⟩ := pe_litT (X := X) h.1.2
    have ek : vk = kV (dkK k) := by
      have a := rk ⟨X.K, X.mg⟩ (fun _ => none) (fun _ => none)
      cases k with
      | inl i => exact a.inv_int
      | inr l => exact a.inv_str.1
    subst ek
    refine ⟨(tC (kV (dkK k)), tC vd) :: trs, (dkK k, vd) :: ws, pps_cons pk pd p, by simpa using h1, by simp [h2], by simp [h3], by simp [h4], fun G H M => .cons (rd G H M) (h5 G H M), fun σ H Q q => ?_⟩
    exact h6 σ H _ q
  | [], some _ :: _, _, h => by cases h
  | [], none :: _, _, h => by cases h
  | [], [], _ :: _, h => by cases h
  | _ :: _, [], _, h => by cases h
  | _ :: _, none :: _, _, h => by cases h
  | _ :: _, some _ :: _, [], h => by cases h
theorem RM.newK {G : Gm} {H : Hp} {M : DM} (r : RM G H M) {p : Addr} {vs : List (Key × V)} {kvs : List ((Int ⊕ List Nat) × D)} (n : H p = none) (hk : vs.map (·.1) = kvs.map fun q => dkK q.1) (q : ∀ H' M', Rps G H' M' (vs.map (·.2)) (kvs.map (·.2))) : RM G (upd H p (.dK vs)) (updM M p (.dct kvs)) := ⟨fun a mo h => by
  by_cases ha : a = p
  · subst ha
    rw [updM_same] at h
    cases h
    exact ⟨vs, upd_same, hk, q _ _⟩
  · rw [updM_ne ha] at h
    have z := r.o a mo h
    cases mo with
    | lst ds =>
      obtain ⟨ys, h1, h2⟩ := z
      exact ⟨ys, by rw [upd_ne ha]; exact h1, h2.mono (Ext.newM n).toExt0⟩
    | dct kvs =>
      obtain ⟨ys, h1, h2, h3⟩ := z
      exact ⟨ys, by rw [upd_ne ha]; exact h1, h2, h3.mono (Ext.newM n).toExt0⟩, tabs_new r.t n⟩
section
variable {X : Cx} {W : WX} {c : Sc} {k : Nat} {C : Calls}
theorem de_dlt {kvs : List ((Int ⊕ List Nat) × D)} {ks : List (Option Expr)} {vs : List Expr} {pos : Pos} (h : dltB kvs ks vs = true) (h0 : kvs ≠ []) (h15 : kvs.length ≤ 15) (nd : (kvs.map (·.1)).Nodup) : DE X W (.Dict ks vs pos) fun _ M _ Q => ∀ p, M p = none → Q (.ref p) (updM M p (.dct kvs)) := by
  obtain ⟨trs, ws, pp, h1, h2, h3, h4, h5, h6⟩ := pps_lit (X := X) (pos := pos) h
  refine pe_wk (pe_disp pp h1 (by rw [h2, h3]) (fun e => h0 (by
    have := congrArg List.length e
    rw [h2] at this
    exact List.length_eq_zero_iff.mp this)) (by rw [h2]; exact h15)) ?_
  rintro σ H Qv ⟨δ, M, Q, Qx, rm, rs, q, w, wx⟩ p n
  refine h6 σ _ _ ⟨upd_same, ws, rfl, by rw [← List.length_map (f := Prod.fst), h4, List.length_map]; exact h15, ?_⟩
  have e : mergeK [] ws = ws := by
    rw [merge_new ws [] ?_]
    · rfl
    · rw [List.nil_append, h4]
      have e2 : kvs.map (fun q => dkK q.1) = (kvs.map (·.1)).map dkK := by rw [List.map_map]; rfl
      rw [e2]
      exact (List.pairwise_map.mpr (List.Pairwise.imp (fun {a b} ne z => ne (dkK_inj z)) nd))
  rw [e, upd_upd]
  exact w _ _ ⟨.ref p, _, .newM n, rm.newK n h4 fun H' M' => h5 _ H' M', .ref updM_same, q p (rm.free n)⟩
/-! ### a written text split -/
def splB (s t : List Nat) (ws : List (List Nat)) : Bool := okSB s && !t.isEmpty && decide (s.length + 2 ≤ 16777216) && ((Txt.split (mkS s) (mkS t)).map (·.cps.toList) == ws) && ws.all okSB && decide (ws.length ≤ 16777216)
theorem strs_rps {G : Gm} {H : Hp} {M : DM} : ∀ {ws : List (List Nat)}, ws.all okSB = true → Rps G H M ((ws.map mkS).map V.str) (ws.map D.str)
  | [], _ => .nil
  | w :: ws, h => by
    obtain ⟨h1, h2⟩ := Bool.and_eq_true_iff.mp (show (okSB w && ws.all okSB) = true from h)
    exact .cons (.str w (okS_by h1)) (strs_rps h2)
theorem str_eta (x : Str) : mkS x.cps.toList = x := by
  cases x
  rfl
theorem de_spl {s t : List Nat} {ws : List (List Nat)} {k1 k2 : Nat} {q1 q2 ap pos : Pos} (h : splB s t ws = true) (hl : (ap.endLine == pos.line) = true) :
    DE X W (.Call (.Attribute (.Constant (.str (mkS s)) k1 q1) "split" ap) [.Constant (.str (mkS t)) k2 q2] [] pos) fun _ M _ Q => Q (.lst (ws.map D.str)) M := by
  unfold splB at h
  simp only [Bool.and_eq_true, decide_eq_true_eq, Bool.not_eq_true'] at h
  obtain ⟨⟨⟨⟨⟨h1, h2⟩, h3⟩, h4⟩, h5⟩, h6⟩ := h
  have hws : Txt.split (mkS s) (mkS t) = ws.map mkS := by
    have e := eq_of_beq h4
    rw [← e, List.map_map]
    have : (mkS ∘ fun x : Str => x.cps.toList) = id := by
      funext x
      exact str_eta x
    rw [this, List.map_id]
  refine pe_wk (pe_fz (pe_split pe_str pe_str rfl rfl hl)) ?_
  rintro σ H Qv ⟨δ, M, Q, Qx, rm, rs, q, w, wx⟩
  refine ⟨⟨_, rfl⟩, _, _, rfl, rfl, ?_, ?_, fun p n => ?_⟩
  · rw [mkS_len]
    cases t with
    | nil => cases h2
    | cons _ _ => rfl
  · rw [mkS_len, sizeLine_eq]
    exact h3
  · rw [hws]
    exact lqLst rm (strs_rps h5) (by rw [List.length_map, sizeLine_eq]; exact h6) n q w
end
end Dw
set_option Elab.async false
set_option linter.all false
set_option maxRecDepth 100000
set_option maxHeartbeats 4000000
/-! Dw11: a look at an expression's tree against E; a tree that passes does what E says. -/
namespace Dw
open PySem PySem.Spec PyProof.Rows L2

mutual
def sameD : D → D → Bool
  | .non, .non => true
  | .bl a, .bl b => a == b
  | .int a, .int b => a == b
  | .str a, .str b => a == b
  | .tup a, .tup b => sameDs a b
  | .lst a, .lst b => sameDs a b
  | .glo a, .glo b => a == b
  | _, _ => false
def sameDs : List D → List D → Bool
  | [], [] => true
  | a :: as, b :: bs => sameD a b && sameDs as bs
  | _, _ => false
end
mutual
theorem sameD_eq : ∀ {a b : D}, sameD a b = true → a = b
  | .non, b, h => by cases b <;> first | rfl | cases h
  | .bl a, b, h => by cases b <;> first | (exact congrArg _ (eq_of_beq h)) | cases h
  | .int a, b, h => by cases b <;> first | (exact congrArg _ (eq_of_beq h)) | cases h
  | .str a, b, h => by cases b <;> first | (exact congrArg _ (eq_of_beq h)) | cases h
  | .tup a, b, h => by cases b <;> first | (exact congrArg _ (sameDs_eq h)) | cases h
  | .lst a, b, h => by cases b <;> first | (exact congrArg _ (sameDs_eq h)) | cases h
  | .glo a, b, h => by cases b <;> first | (exact congrArg _ (eq_of_beq h)) | cases h
  | .ref a, b, h => by cases b <;> cases h
  | .scr a, b, h => by cases b <;> cases h
  | .fnv .., b, h => by cases b <;> cases h
theorem sameDs_eq : ∀ {a b : List D}, sameDs a b = true → a = b
  | [], b, h => by cases b <;> first | rfl | cases h
  | a :: as, [], h => by cases h
  | a :: as, b :: bs, h => by
    obtain ⟨h1, h2⟩ := Bool.and_eq_true_iff.mp (show (sameD a b && sameDs as bs) = true from h)
    rw [sameD_eq h1, sameDs_eq h2]
end
def isOp : Bop → Operator → Bool
  | .add, .Add => true
  | .sub, .Sub => true
  | .mul, .Mult => true
  | .mod, .Mod => true
  | .fdiv, .FloorDiv => true
  | .pow, .Pow => true
  | _, _ => false
theorem isOp_eq {o : Bop} {p : Operator} (h : isOp o p = true) : p = bopOf o := by cases o <;> cases p <;> first | rfl | cases h
def isCop : Cop → CmpOp → Bool
  | .eq, .Eq => true
  | .ne, .NotEq => true
  | .lt, .Lt => true
  | .le, .LtE => true
  | .gt, .Gt => true
  | .ge, .GtE => true
  | .isin, .In => true
  | .notin, .NotIn => true
  | .is, .Is => true
  | .isnot, .IsNot => true
  | _, _ => false
theorem isCop_eq {o : Cop} {p : CmpOp} (h : isCop o p = true) : p = copOf o := by cases o <;> cases p <;> first | rfl | cases h
def ownL (c : Sc) (own : List Nat) : List (Str × Nat) := own.filterMap fun i => (c.N[i]?).map fun x => (x, i)
def isTup : Expr → Bool
  | .Tuple .. => true
  | _ => false
def isBoolB : Expr → Bool
  | .BoolOp .. => true
  | _ => false
mutual
/-- q: as a test -/
def ckE (c : Sc) (q : Bool) : E → Expr → Bool
  | .var i, x => (match x with
    | .Name y _ => slotB c i y && visB c y && plainName y
    | _ => false)
  | .lit d, x => litB d x
  | .glo n d, x => (match x with
    | .Name y _ => n == y && glB c n && c.con.any fun q => q.1 == n && sameD q.2 d
    | _ => false)
  | .tup es, x => (match x with
    | .Tuple xs _ _ => xs.all notStar && decide (xs.length ≤ 1000) && ckA c es xs
    | _ => false)
  | .lst _ es, x => (match x with
    | .List xs _ => xs.all notStar && decide (xs.length ≤ 1000) && ckA c es xs
    | _ => false)
  | .bin o a b, x => (match x with
    | .BinOp y p z _ => isOp o p && ckE c false a y && ckE c false b z
    | _ => false)
  | .neg a, x => (match x with
    | .UnaryOp .USub y _ => ckE c false a y && !q
    | _ => false)
  | .not a, x => (match x with
    | .UnaryOp .Not y _ => ckE c q a y
    | _ => false)
  | .cmp o a b, x => (match x with
    | .Compare y [p] [z] _ => isCop o p && notSet z && ckE c false a y && ckE c false b z
    | _ => false)
  | .cmp2 o o' a b d, x => (match x with
    | .Compare y [p, p'] [z, w] _ => isCop o p && isCop o' p' && notSetL [z, w] && ckE c false a y && ckE c false b z && ckE c false d w
    | _ => false)
  | .and a b, x => (match x with
    | .BoolOp .And (y :: z :: []) _ => ckE c q a y && ckE c q b z
    | .BoolOp .And (y :: z :: w :: r) p => ckE c q a y && ckE c q b (.BoolOp .And (z :: w :: r) p)
    | _ => false)
  | .or a b, x => (match x with
    | .BoolOp .Or (y :: z :: []) _ => ckE c q a y && ckE c q b z
    | .BoolOp .Or (y :: z :: w :: r) p => ckE c q a y && ckE c q b (.BoolOp .Or (z :: w :: r) p)
    | _ => false)
  | .ife t a b, x => (match x with
    | .IfExp y z w _ => ckE c true t y && ckE c false a z && ckE c false b w && !q
    | _ => false)
  | .call f as, x => (match x with
    | .Call (.Name y _) xs kws _ => (match c.defs[f]? with
      | some (z, ps, js) => z == y && glB c z && xs.all notStar && (kws.isEmpty || (js.contains xs.length && decide (xs.length ≤ ps.length) && kwNames kws == (ps.drop xs.length).map some)) && ckK c as xs kws
      | none => false)
    | _ => false)
  | .lam f b, x => (match x with
    | .Call (.Name y _) [.Lambda params body scope _] [] _ => (match c.defs[f]? with
      | some (z, _, _) => z == y && c.top && c.hds.contains f && glB c z && noPar params && LamX.lamSB c.sc scope && ckE (c.lamOf scope) false b body
      | none => false)
    | _ => false)
  | .act, x => (match x with
    | .Call (.Name y _) [] [] _ => c.act == some y
    | _ => false)
  | .blt b as, x => (match x with
    | .Call (.Name y _) (z :: xs) [] _ => y == bltName b && c.blts.contains (bltName b) && glB c (bltName b) && (z :: xs).all notStar && ckA c as (z :: xs)
    | _ => false)
  | .isi a ts, x => (match x with
    | .Call (.Name y _) [z, w] [] _ => y == "isinstance" && c.blts.contains "isinstance" && glB c "isinstance" && notStar z && ckE c false a z && (match w with
      | .Name n _ => (match ts with
        | [t] => n == tyName t && c.blts.contains (tyName t) && glB c (tyName t)
        | _ => false)
      | .Tuple es _ _ => isNames c es ts && decide (ts.length ≤ 1000) && !ts.isEmpty
      | _ => false)
    | _ => false)
  | .mth m o as, x => (match x with
    | .Call (.Attribute y n ap) xs [] p => n == mthName m && notSuper y && ap.endLine == p.line && xs.all notStar && decide (xs.length < 30) && ckE c false o y && ckA c as xs
    | _ => false)
  | .idx a i, x => (match x with
    | .Subscript y z _ => notSlice z && ckE c false a y && ckE c false i z
    | _ => false)
  | .slc a lo hi, x => (match x with
    | .Subscript y (.Slice l h none _) _ => ckE c false a y && ckO c lo l && ckO c hi h
    | _ => false)
  | .rev _ a, x => (match x with
    | .Subscript y (.Slice none none (some (.UnaryOp .USub (.Constant (.int 1) _ _) _)) _) _ => ckE c false a y
    | _ => false)
  | .stp a lo hi st, x => (match x with
    | .Subscript y (.Slice l h z _) _ => litP l lo && litP h hi && litP z (some st) && z.isSome && decide (st ≠ 0) && decide (st ≠ 1) && ckE c false a y
    | _ => false)
  | .sst a, x => (match x with
    | .Call (.Name y _) [.Call (.Name z _) [w] [] _] [] _ => y == "sorted" && z == "set" && c.blts.contains "sorted" && glB c "sorted" && c.blts.contains "set" && glB c "set" && notStar w && ckE c false a w
    | _ => false)
  | .trg tup a, x => (match x with
    | .Call (.Name y _) [.Call (.Name z _) [w] [] _] [] _ => y == (match tup with | true => "tuple" | false => "list") && z == "range" && c.blts.contains (match tup with | true => "tuple" | false => "list") && glB c (match tup with | true => "tuple" | false => "list") && c.blts.contains "range" && glB c "range" && notStar w && ckE c false a w
    | _ => false)
  | .dlt kvs, x => (match x with
    | .Dict ks vs _ => dltB kvs ks vs && !kvs.isEmpty && decide (kvs.length ≤ 15) && decide (kvs.map (·.1)).Nodup
    | _ => false)
  | .spl s t ws, x => (match x with
    | .Call (.Attribute (.Constant (.str S) _ _) n ap) [.Constant (.str T) _ _] [] p => n == "split" && ap.endLine == p.line && S.cps.toList == s && T.cps.toList == t && splB s t ws
    | _ => false)
  | .lc _ e own t it cs, x => (match x with
    | .ListComp elt [⟨tg, iter, ifs, 0⟩] scope _ => blkC c.N c.sc scope (ownL c own) && ((ownL c own).map (·.2) == own) && notSet iter && (t.slots.all fun i => own.contains i) && ckT (c.blkOf scope) tg t && ckI c it tg iter && ckC (c.blkOf scope) cs ifs && ckE (c.blkOf scope) false e elt
    | _ => false)
def ckO (c : Sc) : Option E → Option Expr → Bool
  | none, x => x.isNone
  | some e, x => (match x with
    | some x => ckE c false e x
    | none => false)
def ckA (c : Sc) : List E → List Expr → Bool
  | [], xs => xs.isEmpty
  | e :: es, xs => (match xs with
    | x :: xs => ckE c false e x && ckA c es xs
    | [] => false)
/-- arguments: by place, then by name -/
def ckK (c : Sc) : List E → List Expr → List Keyword → Bool
  | [], xs, ks => xs.isEmpty && ks.isEmpty
  | e :: es, xs, ks => (match xs with
    | x :: xs => ckE c false e x && ckK c es xs ks
    | [] => (match ks with
      | ⟨some _, x, _⟩ :: ks => ckE c false e x && ckK c es [] ks
      | _ => false))
/-- a comprehension's tests -/
def ckC (c : Sc) : List E → List Expr → Bool
  | [], xs => xs.isEmpty
  | e :: es, xs => (match xs with
    | [x] => es.isEmpty && ckE c true e x
    | _ => false)
def ckI (c : Sc) : I → Expr → Expr → Bool
  | .seq e, _, x => ckE c false e x
  | .rng1 e, _, x => (match x with
    | .Call (.Name f _) [x] [] _ => f == "range" && c.blts.contains "range" && glB c "range" && notStar x && ckE c false e x
    | _ => false)
  | .rng2 a b, _, x => (match x with
    | .Call (.Name f _) [x, y] [] _ => f == "range" && c.blts.contains "range" && glB c "range" && notStar x && notStar y && ckE c false a x && ckE c false b y
    | _ => false)
  | .enum e, tg, x => (match x with
    | .Call (.Name f _) [x] [] _ => isTup tg && f == "enumerate" && c.blts.contains "enumerate" && glB c "enumerate" && notStar x && ckE c false e x
    | _ => false)
  | .zip a b, tg, x => (match x with
    | .Call (.Name f _) [x, y] [] _ => isTup tg && f == "zip" && c.blts.contains "zip" && glB c "zip" && notStar x && notStar y && ckE c false a x && ckE c false b y
    | _ => false)
end
/-- what a look says -/
def Jd (X : Cx) (W : WX) (q : Bool) (x : Expr) (t : DTE) : Prop := match q with
  | false => DE X W x t
  | true => DT X W x (tstD t) ∧ (isBoolB x = true → DW X W x (tstD t))
section
variable {X : Cx} {W : WX} {k : Nat} {C : Calls}
theorem Jd.of {q : Bool} {x : Expr} {t : DTE} (h : DE X W x t) (p : plainTest x = true) : Jd X W q x t := by
  cases q with
  | false => exact h
  | true => exact ⟨dt_plain p h, fun b => by cases x <;> first | (cases p; done) | (cases b; done)⟩
theorem Jd.two {q : Bool} {x : Expr} {t : DTE} (h : DE X W x t) (h2 : DT X W x (tstD t)) (p : isBoolB x = false) : Jd X W q x t := by
  cases q with
  | false => exact h
  | true => exact ⟨h2, fun b => by rw [p] at b; cases b⟩
theorem Jd.bool {q : Bool} {x : Expr} {t : DTE} (h : q = false → DE X W x t) (h2 : q = true → DW X W x (tstD t)) : Jd X W q x t := by
  cases q with
  | false => exact h rfl
  | true => exact ⟨(h2 rfl).pt, fun _ => h2 rfl⟩
theorem de_not {a : Expr} {p : Pos} {t : DTE} (h : DE X W a t) : DE X W (.UnaryOp .Not a p) fun δ M Qx Q => t δ M Qx fun x M1 => res (notR M1 x) M1 Q := by
  refine pe_wk (pe_notT h) ?_
  rintro σ H Qv ⟨δ, M, Q, Qx, rm, rs, q, w, wx⟩
  refine ⟨δ, M, _, Qx, rm, rs, q, fun v H1 ⟨d, M1, e1, rm1, a1, q1⟩ => ?_, wx⟩
  obtain ⟨b, e, q⟩ := res_map q1
  exact ⟨b, truV rm1 a1 e, w _ _ ⟨.bl (!b), M1, e1, rm1, .bl _, q.2⟩⟩
theorem de_litB {d : D} {x : Expr} (h : litB d x = true) : DE X W x fun _ M _ Q => Q d M := by
  unfold litB at h
  split at h
  · obtain rfl := eq_of_beq h
    exact de_lit pe_int fun _ _ => .int _
  · obtain rfl := eq_of_beq h
    exact de_lit pe_bl fun _ _ => .bl _
  · exact de_lit pe_non fun _ _ => .non
  · rename_i l s _ _
    rw [Bool.and_eq_true] at h
    have e : s = mkS l := by
      have := eq_of_beq h.1
      cases s with
      | mk cps => show Str.mk cps = Str.mk l.toArray; rw [← this]
    subst e
    exact de_lit pe_str fun _ _ => .str _ (okS_by h.2)
  · cases h
theorem lit_plain {d : D} {x : Expr} (h : litB d x = true) : plainTest x = true := by
  unfold litB at h
  split at h <;> first
    | rfl
    | cases h
theorem wpA_app {C : Calls} : ∀ {a b : List E} {δ : DS} {M : DM} {Qx : QX} {Q : List D → DM → Prop}, wpA C (a ++ b) δ M Qx Q → CMono C → wpA C a δ M Qx fun ds M1 => wpA C b δ M1 Qx fun ds2 M2 => Q (ds ++ ds2) M2
  | [], b, δ, M, Qx, Q, h, _ => h
  | e :: a, b, δ, M, Qx, Q, h, hC => wpE_mono hC e (fun _ _ z => z) (fun d M1 q => wpA_app (a := a) q hC) h
theorem pts_wk {es : List Expr} {t u : TT} (h : PTs X es t) (w : ∀ σ H Q, u σ H Q → t σ H Q) : PTs X es u := ⟨fun pins s σ H Q I q => h.run pins s σ H Q I (w σ H Q q)⟩
theorem dts_nil : DTs X W [] fun _ M _ Q => Q true M := by
  refine pts_wk pts_nil ?_
  rintro σ H Qv ⟨δ, M, Q, Qx, rm, rs, q, w, wx⟩
  exact w true H ⟨M, .refl, rm, q⟩
end
end Dw
set_option Elab.async false
set_option linter.all false
set_option maxRecDepth 100000
set_option maxHeartbeats 4000000
/-! Dw12: a tree that passes the look does what E says. -/
namespace Dw
open PySem PySem.Spec PyProof.Rows L2

section
variable {C : Calls} (hC : CMono C)
include hC
theorem monoE (e : E) : Mono (wpE C e) := fun h q => wpE_mono hC e (fun _ _ z => z) h q
mutual
theorem ckE_ok : ∀ (e : E) {X : Cx} {W : WX} {c : Sc} {k : Nat} {q : Bool} {x : Expr}, CtxOk X W c k C → ckE c q e x = true → Jd X W q x (wpE C e)
  | .var i, X, W, c, k, q, x, ok, h => by
    unfold ckE at h
    split at h
    · simp only [Bool.and_eq_true] at h
      exact .of (de_var ok h.1.1 h.1.2 h.2) rfl
    · cases h
  | .lit d, X, W, c, k, q, x, ok, h => .of (de_litB h) (lit_plain h)
  | .glo n d, X, W, c, k, q, x, ok, h => by
    unfold ckE at h
    split at h
    · simp only [Bool.and_eq_true, List.any_eq_true] at h
      obtain ⟨⟨h1, h2⟩, ⟨n', d'⟩, hm, h3, h4⟩ := h
      obtain rfl := eq_of_beq h1
      obtain rfl := eq_of_beq h3
      obtain rfl := sameD_eq h4
      obtain ⟨i, hi⟩ := List.getElem?_of_mem hm
      obtain ⟨u, v, hu, r, rp⟩ := ok.con i _ hi
      refine .of (de_lit (pe_glob (ok.gl h2) hu r (gl_plain h2).1) rp) rfl
    · cases h
  | .tup es, X, W, c, k, q, x, ok, h => by
    unfold ckE at h
    split at h
    · simp only [Bool.and_eq_true, decide_eq_true_eq] at h
      exact .of (de_tup (ckA_ok es ok h.1.1 h.2) h.1.2) rfl
    · cases h
  | .lst m es, X, W, c, k, q, x, ok, h => by
    unfold ckE at h
    split at h
    · simp only [Bool.and_eq_true, decide_eq_true_eq] at h
      exact .of (de_lst (ckA_ok es ok h.1.1 h.2) h.1.2) rfl
    · cases h
  | .bin o a b, X, W, c, k, q, x, ok, h => by
    unfold ckE at h
    split at h
    · simp only [Bool.and_eq_true] at h
      obtain rfl := isOp_eq h.1.1
      exact .of (de_bin o (ckE_ok (q := false) a ok h.1.2) (ckE_ok (q := false) b ok h.2)) rfl
    · cases h
  | .neg a, X, W, c, k, q, x, ok, h => by
    unfold ckE at h
    split at h
    · simp only [Bool.and_eq_true] at h
      exact .of (de_neg (ckE_ok (q := false) a ok h.1)) rfl
    · cases h
  | .not a, X, W, c, k, q, x, ok, h => by
    unfold ckE at h
    split at h
    · cases q with
      | false => exact de_not (ckE_ok (q := false) a ok h)
      | true => exact ⟨dt_not (monoE hC a) (ckE_ok (q := true) a ok h).1, fun b => by cases b⟩
    · cases h
  | .cmp o a b, X, W, c, k, q, x, ok, h => by
    unfold ckE at h
    split at h
    · simp only [Bool.and_eq_true] at h
      obtain rfl := isCop_eq h.1.1.1
      have h1 := ckE_ok (q := false) a ok h.1.2
      have h2 := ckE_ok (q := false) b ok h.2
      exact .two (de_cmp ok o h.1.1.2 h1 h2) (dt_cmp ok o h.1.1.2 h1 h2) rfl
    · cases h
  | .cmp2 o o' a b d, X, W, c, k, q, x, ok, h => by
    unfold ckE at h
    split at h
    · simp only [Bool.and_eq_true] at h
      obtain ⟨⟨⟨⟨⟨h0, h0'⟩, h1⟩, h2⟩, h3⟩, h4⟩ := h
      obtain rfl := isCop_eq h0
      obtain rfl := isCop_eq h0'
      have k1 := ckE_ok (q := false) a ok h2
      have k2 := ckE_ok (q := false) b ok h3
      have k3 := ckE_ok (q := false) d ok h4
      exact .two (de_chain ok o o' h1 k1 k2 k3) (dt_chain (t := wpE C a) (u := wpE C b) (r := wpE C d) (monoE hC a) (monoE hC b) (monoE hC d) ok o o' h1 k1 k2 k3) rfl
    · cases h
  | .and a b, X, W, c, k, q, x, ok, h => by
    unfold ckE at h
    split at h
    · simp only [Bool.and_eq_true] at h
      refine .bool (fun e => ?_) (fun e => ?_)
      · subst e; exact de_and (ckE_ok (q := false) a ok h.1) (de_one (ckE_ok (q := false) b ok h.2))
      · subst e; exact dw_and (monoE hC a) (ckE_ok (q := true) a ok h.1).1 (dw_one (ckE_ok (q := true) b ok h.2).1)
    · simp only [Bool.and_eq_true] at h
      refine .bool (fun e => ?_) (fun e => ?_)
      · subst e; exact de_and (ckE_ok (q := false) a ok h.1) (ckE_ok (q := false) b ok h.2)
      · subst e; exact dw_and (monoE hC a) (ckE_ok (q := true) a ok h.1).1 ((ckE_ok (q := true) b ok h.2).2 rfl)
    · cases h
  | .or a b, X, W, c, k, q, x, ok, h => by
    unfold ckE at h
    split at h
    · simp only [Bool.and_eq_true] at h
      refine .bool (fun e => ?_) (fun e => ?_)
      · subst e; exact de_or (ckE_ok (q := false) a ok h.1) (de_one (ckE_ok (q := false) b ok h.2))
      · subst e; exact dw_or (monoE hC a) (ckE_ok (q := true) a ok h.1).1 (dw_one (ckE_ok (q := true) b ok h.2).1)
    · simp only [Bool.and_eq_true] at h
      refine .bool (fun e => ?_) (fun e => ?_)
      · subst e; exact de_or (ckE_ok (q := false) a ok h.1) (ckE_ok (q := false) b ok h.2)
      · subst e; exact dw_or (monoE hC a) (ckE_ok (q := true) a ok h.1).1 ((ckE_ok (q := true) b ok h.2).2 rfl)
    · cases h
  | .ife t a b, X, W, c, k, q, x, ok, h => by
    unfold ckE at h
    split at h
    · simp only [Bool.and_eq_true, Bool.not_eq_true'] at h
      obtain rfl := h.2
      exact de_ife (ckE_ok (q := true) t ok h.1.1.1).1 (ckE_ok (q := false) a ok h.1.1.2) (ckE_ok (q := false) b ok h.1.2)
    · cases h
  | .call f as, X, W, c, k, q, x, ok, h => by
    unfold ckE at h
    split at h
    · split at h
      · rename_i y p xs kws pos o z ps js hf
        simp only [Bool.and_eq_true, Bool.or_eq_true] at h
        obtain ⟨⟨⟨⟨h1, h2⟩, h3⟩, h4⟩, h5⟩ := h
        obtain rfl := eq_of_beq h1
        obtain ⟨as1, as2, rfl, hA, hK, l1⟩ := ckK_ok as ok h3 h5
        refine .of ?_ rfl
        rcases h4 with h4 | h4
        · cases kws with
          | nil =>
            cases as2 with
            | nil =>
              rw [List.append_nil]
              cases xs with
              | nil =>
                cases as1 with
                | nil => exact de_call0 ok hf h2
                | cons a as1 => cases l1
              | cons x xs => exact de_call ok hf h2 h3 hA
            | cons a as2 => exact absurd hK.2 (by simp)
          | cons kw kws => cases h4
        · obtain ⟨⟨h6, h7⟩, h8⟩ := h4
          refine pe_wk (de_callK ok hf h2 h3 h6 (of_decide_eq_true h7) (fun e δ M Qx Q q => ?_) (eq_of_beq h8) hA hK.1) ?_
          · subst e
            cases as1 with
            | nil => exact q
            | cons a as1 => cases l1
          · rintro σ H Qv ⟨δ, M, Q, Qx, rm, rs, q, w, wx⟩
            exact ⟨δ, M, Q, Qx, rm, rs, wpA_app q hC, w, wx⟩
      · cases h
    · cases h
  | .lam f b, X, W, c, k, q, x, ok, h => by
    unfold ckE at h
    split at h
    · split at h
      · rename_i hf
        simp only [Bool.and_eq_true] at h
        obtain ⟨⟨⟨⟨⟨⟨h1, h2⟩, h3⟩, h4⟩, h5⟩, h6⟩, h7⟩ := h
        obtain rfl := eq_of_beq h1
        exact .of (de_lam (t := wpE C b) ok h2 (List.contains_iff_mem.mp h3) hf h4 h5 h6 (fun δ _ _ _ _ _ g1 g2 z => wpE_mono hC b g1 g2 z) fun A outer s H E f' c' hr => ckE_ok (q := false) b (ok.lam hr) h7) rfl
      · cases h
    · cases h
  | .act, X, W, c, k, q, x, ok, h => by
    unfold ckE at h
    split at h
    · exact .of (ok.act _ (eq_of_beq h) W X.pn X.xe _ _ ok.tk) rfl
    · cases h
  | .blt b as, X, W, c, k, q, x, ok, h => by
    unfold ckE at h
    split at h
    · simp only [Bool.and_eq_true] at h
      obtain ⟨⟨⟨⟨h1, h2⟩, h3⟩, h4⟩, h5⟩ := h
      obtain rfl := eq_of_beq h1
      exact .of (de_blt ok h2 h3 h4 (ckA_ok as ok h4 h5)) rfl
    · cases h
  | .isi a ts, X, W, c, k, q, x, ok, h => by
    unfold ckE at h
    split at h
    · simp only [Bool.and_eq_true] at h
      obtain ⟨⟨⟨⟨⟨h1, h2⟩, h3⟩, h4⟩, h5⟩, h6⟩ := h
      obtain rfl := eq_of_beq h1
      have hA := ckE_ok (q := false) a ok h5
      split at h6
      · split at h6
        · simp only [Bool.and_eq_true] at h6
          obtain ⟨⟨h7, h8⟩, h9⟩ := h6
          obtain rfl := eq_of_beq h7
          exact .of (de_isi1 ok h2 h3 h8 h9 h4 hA) rfl
        · cases h6
      · simp only [Bool.and_eq_true, decide_eq_true_eq] at h6
        exact .of (de_isiT ok h2 h3 h6.1.1 h6.1.2 (fun e => by rw [e] at h6; cases h6.2) h4 hA) rfl
      · cases h6
    · cases h
  | .mth m o as, X, W, c, k, q, x, ok, h => by
    unfold ckE at h
    split at h
    · rename_i y n ap xs p
      simp only [Bool.and_eq_true, decide_eq_true_eq] at h
      obtain ⟨⟨⟨⟨⟨⟨h1, h2⟩, h3⟩, h4⟩, h5⟩, h6⟩, h7⟩ := h
      obtain rfl := eq_of_beq h1
      have hO := ckE_ok (q := false) o ok h6
      have hA := ckA_ok as ok h4 h7
      refine .of ?_ rfl
      cases xs with
      | nil =>
        cases as with
        | nil =>
          refine pe_wk (de_mth0 ok h2 h3 hO) ?_
          rintro σ H Qv ⟨δ, M, Q, Qx, rm, rs, q, w, wx⟩
          exact ⟨δ, M, Q, Qx, rm, rs, wpE_mono hC o (fun _ _ z => z) (fun _ _ z => z.2) q, w, wx⟩
        | cons a as => cases h7
      | cons x xs => exact de_mth ok h4 h5 h2 h3 hO hA
    · cases h
  | .idx a i, X, W, c, k, q, x, ok, h => by
    unfold ckE at h
    split at h
    · simp only [Bool.and_eq_true] at h
      exact .of (de_idx ok h.1.1 (ckE_ok (q := false) a ok h.1.2) (ckE_ok (q := false) i ok h.2)) rfl
    · cases h
  | .slc a lo hi, X, W, c, k, q, x, ok, h => by
    unfold ckE at h
    split at h
    · simp only [Bool.and_eq_true] at h
      exact .of (de_slc (ckE_ok (q := false) a ok h.1.1) (ckO_ok lo ok h.1.2) (ckO_ok hi ok h.2)) rfl
    · cases h
  | .rev m a, X, W, c, k, q, x, ok, h => by
    unfold ckE at h
    split at h
    · exact .of (de_rev (ckE_ok (q := false) a ok h)) rfl
    · cases h
  | .stp a lo hi st, X, W, c, k, q, x, ok, h => by
    unfold ckE at h
    split at h
    · simp only [Bool.and_eq_true, decide_eq_true_eq] at h
      obtain ⟨⟨⟨⟨⟨⟨h1, h2⟩, h3⟩, h4⟩, h5⟩, h6⟩, h7⟩ := h
      exact .of (de_stp h1 h2 h3 h5 h6 (ckE_ok (q := false) a ok h7) h4) rfl
    · cases h
  | .sst a, X, W, c, k, q, x, ok, h => by
    unfold ckE at h
    split at h
    · simp only [Bool.and_eq_true] at h
      obtain ⟨⟨⟨⟨⟨⟨⟨h1, h2⟩, h3⟩, h4⟩, h5⟩, h6⟩, h7⟩, h8⟩ := h
      obtain rfl := eq_of_beq h1
      obtain rfl := eq_of_beq h2
      exact .of (de_sst ok h3 h4 h5 h6 h7 (ckE_ok (q := false) a ok h8)) rfl
    · cases h
  | .trg tup a, X, W, c, k, q, x, ok, h => by
    unfold ckE at h
    split at h
    · simp only [Bool.and_eq_true] at h
      obtain ⟨⟨⟨⟨⟨⟨⟨h1, h2⟩, h3⟩, h4⟩, h5⟩, h6⟩, h7⟩, h8⟩ := h
      obtain rfl := eq_of_beq h1
      obtain rfl := eq_of_beq h2
      cases tup with
      | true => exact .of (de_trg ok h3 h4 h5 h6 h7 (ckE_ok (q := false) a ok h8)) rfl
      | false => exact .of (de_lrg ok h3 h4 h5 h6 h7 (ckE_ok (q := false) a ok h8)) rfl
    · cases h
  | .dlt kvs, X, W, c, k, q, x, ok, h => by
    unfold ckE at h
    split at h
    · simp only [Bool.and_eq_true, decide_eq_true_eq, Bool.not_eq_true'] at h
      obtain ⟨⟨⟨h1, h2⟩, h3⟩, h4⟩ := h
      exact .of (de_dlt h1 (fun e => by rw [e] at h2; cases h2) h3 h4) rfl
    · cases h
  | .spl s t ws, X, W, c, k, q, x, ok, h => by
    unfold ckE at h
    split at h
    · simp only [Bool.and_eq_true] at h
      obtain ⟨⟨⟨⟨h1, h2⟩, h3⟩, h4⟩, h5⟩ := h
      obtain rfl := eq_of_beq h1
      rename_i S _ _ _ T _ _ _
      have e1 : S = mkS s := by rw [← eq_of_beq h3]; exact (str_eta S).symm
      have e2 : T = mkS t := by rw [← eq_of_beq h4]; exact (str_eta T).symm
      subst e1 e2
      exact .of (de_spl h5 h2) rfl
    · cases h
  | .lc m e own t it cs, X, W, c, k, q, x, ok, h => by
    unfold ckE at h
    split at h
    · simp only [Bool.and_eq_true, List.all_eq_true] at h
      obtain ⟨⟨⟨⟨⟨⟨⟨h1, h2⟩, h3⟩, h4⟩, h5⟩, h6⟩, h7⟩, h8⟩ := h
      have ho := eq_of_beq h2
      rename_i elt tg iter ifs scope pos
      refine .of ?_ rfl
      have r := de_lc (m := m) (pos := pos) ok (blkOk_by h1) h3 (fun i hi => by rw [ho]; exact List.contains_iff_mem.mp (h4 i hi)) h5 (ckI_ok it ok h6)
        (fun s H D cl fp => ckC_ok cs (ok.blk s H D cl fp) h7) (fun s H D cl fp => ckE_ok (q := false) e (ok.blk s H D cl fp) h8)
      rw [ho] at r
      exact r
    · cases h
theorem ckO_ok : ∀ (e : Option E) {X : Cx} {W : WX} {c : Sc} {k : Nat} {x : Option Expr}, CtxOk X W c k C → ckO c e x = true → DO X W x (wpO C e)
  | none, X, W, c, k, x, ok, h => by
    cases x with
    | none => exact do_none
    | some x => cases h
  | some e, X, W, c, k, x, ok, h => by
    cases x with
    | none => cases h
    | some x => exact do_some (ckE_ok (q := false) e ok h)
theorem ckA_ok : ∀ (es : List E) {X : Cx} {W : WX} {c : Sc} {k : Nat} {xs : List Expr}, CtxOk X W c k C → xs.all notStar = true → ckA c es xs = true → DA X W xs (wpA C es)
  | [], X, W, c, k, xs, ok, hs, h => by
    cases xs with
    | nil => exact da_nil
    | cons x xs => cases h
  | e :: es, X, W, c, k, xs, ok, hs, h => by
    cases xs with
    | nil => cases h
    | cons x xs =>
      obtain ⟨h1, h2⟩ := Bool.and_eq_true_iff.mp (show (ckE c false e x && ckA c es xs) = true from h)
      obtain ⟨s1, s2⟩ := Bool.and_eq_true_iff.mp (show (notStar x && xs.all notStar) = true from hs)
      exact da_cons s1 (ckE_ok (q := false) e ok h1) (ckA_ok es ok s2 h2)
theorem ckK_ok : ∀ (es : List E) {X : Cx} {W : WX} {c : Sc} {k : Nat} {xs : List Expr} {ks : List Keyword}, CtxOk X W c k C → xs.all notStar = true → ckK c es xs ks = true →
    ∃ as1 as2, es = as1 ++ as2 ∧ DA X W xs (wpA C as1) ∧ (DK X W ks (wpA C as2) ∧ as2.length = ks.length) ∧ as1.length = xs.length
  | [], X, W, c, k, xs, ks, ok, hs, h => by
    obtain ⟨h1, h2⟩ := Bool.and_eq_true_iff.mp (show (xs.isEmpty && ks.isEmpty) = true from h)
    cases xs with
    | nil =>
      cases ks with
      | nil => exact ⟨[], [], rfl, da_nil, ⟨dk_nil, rfl⟩, rfl⟩
      | cons k ks => cases h2
    | cons x xs => cases h1
  | e :: es, X, W, c, k, xs, ks, ok, hs, h => by
    cases xs with
    | cons x xs =>
      obtain ⟨h1, h2⟩ := Bool.and_eq_true_iff.mp (show (ckE c false e x && ckK c es xs ks) = true from h)
      obtain ⟨s1, s2⟩ := Bool.and_eq_true_iff.mp (show (notStar x && xs.all notStar) = true from hs)
      obtain ⟨a1, a2, rfl, hA, hK, l⟩ := ckK_ok es ok s2 h2
      exact ⟨e :: a1, a2, rfl, da_cons s1 (ckE_ok (q := false) e ok h1) hA, hK, by rw [List.length_cons, l, List.length_cons]⟩
    | nil =>
      match ks, h with
      | ⟨some nm, x, p⟩ :: ks, h =>
        obtain ⟨h1, h2⟩ := Bool.and_eq_true_iff.mp (show (ckE c false e x && ckK c es [] ks) = true from h)
        obtain ⟨a1, a2, rfl, hA, hK, l⟩ := ckK_ok es ok rfl h2
        cases a1 with
        | nil => exact ⟨[], e :: a2, rfl, da_nil, ⟨dk_cons (ckE_ok (q := false) e ok h1) hK.1, by rw [List.length_cons, hK.2, List.length_cons]⟩, rfl⟩
        | cons a a1 => cases l
theorem ckC_ok : ∀ (es : List E) {X : Cx} {W : WX} {c : Sc} {k : Nat} {xs : List Expr}, CtxOk X W c k C → ckC c es xs = true → DTs X W xs (wpC C es)
  | [], X, W, c, k, xs, ok, h => by
    cases xs with
    | nil => exact dts_nil
    | cons x xs => cases h
  | e :: es, X, W, c, k, xs, ok, h => by
    match xs, h with
    | [x], h =>
      obtain ⟨h1, h2⟩ := Bool.and_eq_true_iff.mp (show (es.isEmpty && ckE c true e x) = true from h)
      cases es with
      | nil => exact pts_one (ckE_ok (q := true) e ok h2).1
      | cons => cases h1
theorem ckI_ok : ∀ (it : I) {X : Cx} {W : WX} {c : Sc} {k : Nat} {tg x : Expr}, CtxOk X W c k C → ckI c it tg x = true → DI X W tg x (wpI C it)
  | .seq e, X, W, c, k, tg, x, ok, h => di_seq (ckE_ok (q := false) e ok h)
  | .rng1 e, X, W, c, k, tg, x, ok, h => by
    unfold ckI at h
    split at h
    · simp only [Bool.and_eq_true] at h
      obtain ⟨⟨⟨⟨h1, h2⟩, h3⟩, h4⟩, h5⟩ := h
      obtain rfl := eq_of_beq h1
      exact di_rng1 ok h2 h3 h4 (ckE_ok (q := false) e ok h5)
    · cases h
  | .rng2 a b, X, W, c, k, tg, x, ok, h => by
    unfold ckI at h
    split at h
    · simp only [Bool.and_eq_true] at h
      obtain ⟨⟨⟨⟨⟨⟨h1, h2⟩, h3⟩, h4⟩, h5⟩, h6⟩, h7⟩ := h
      obtain rfl := eq_of_beq h1
      exact di_rng2 ok h2 h3 h4 h5 (ckE_ok (q := false) a ok h6) (ckE_ok (q := false) b ok h7)
    · cases h
  | .enum e, X, W, c, k, tg, x, ok, h => by
    unfold ckI at h
    split at h
    · simp only [Bool.and_eq_true] at h
      obtain ⟨⟨⟨⟨⟨h0, h1⟩, h2⟩, h3⟩, h4⟩, h5⟩ := h
      obtain rfl := eq_of_beq h1
      cases tg <;> first
        | exact di_enum ok h2 h3 h4 (ckE_ok (q := false) e ok h5)
        | cases h0
    · cases h
  | .zip a b, X, W, c, k, tg, x, ok, h => by
    unfold ckI at h
    split at h
    · simp only [Bool.and_eq_true] at h
      obtain ⟨⟨⟨⟨⟨⟨⟨h0, h1⟩, h2⟩, h3⟩, h4⟩, h5⟩, h6⟩, h7⟩ := h
      obtain rfl := eq_of_beq h1
      cases tg <;> first
        | exact di_zip ok h2 h3 h4 h5 (ckE_ok (q := false) a ok h6) (ckE_ok (q := false) b ok h7)
        | cases h0
    · cases h
end
end
end Dw
set_option Elab.async false
set_option linter.all false
set_option maxRecDepth 100000
set_option maxHeartbeats 4000000
/-! DwX3: raise and try over data. -/
namespace Dw
open PySem PySem.Spec PyProof.Rows L2

section
variable {X : Cx} {W : WX} {c : Sc} {k : Nat} {C : Calls}
theorem binds2 {K : PySem.W.Frag} {fd : FuncData} (h : ∀ us : List Value, us.length = 2 → bindArgs fd ⟨us, []⟩ = pure ((["self", "at"] : List Str).zip us)) : Binds K fd (["self", "at"] : List Str) [] := .all fun us hl => h us hl
/-- raise X(e) -/
theorem ds_raise {x : Str} {e : Expr} {p p2 p3 : Pos} {t : DTE} (ok : CtxOk X W c k C) (hx : c.excs.contains x = true) (hg : glB c x = true) (hs : notStar e = true) (h : DE X W e t) :
    DSt X W (.Raise (some (.Call (.Name x p) [e] [] p2)) none p3) fun E δ M => t δ M (E.ex δ) fun d M1 => E.ex δ ⟨x, some d⟩ M1 := by
  obtain ⟨CA, f, F, oc, od, doc, pm, ctv, sl, hm, T, hlk, hin, hty, hbd, hxf⟩ := ok.exc x (List.contains_iff_mem.mp hx)
  have hF : FnOk X.prog X.w X.K X.mg X.base (L2.CX X.prog X.w) 1 f (F.fd doc pm ctv) (["self", "at"] : List Str) (spIni CA) := ini_fn (k := 0) T hlk
  have mk := pmk_oex (X := X) (x := x) (p := p) (pos := p2) T.oex hin hty hF ok.two (binds2 hbd) .nil passL (ok.gl hg) hm (pa_cons h pa_nil (star_cons hs)) (gl_plain hg).1 (star_cons hs) rfl
  refine ps_wk (ps_raise ok.calm ok.tk mk) ?_
  rintro D σ H ⟨δ, M, E, rm, rs, q, o⟩
  refine up_stE rm rs o q fun v H1 d M1 e1 rm1 rs1 a1 o1 q1 => ?_
  refine ⟨by simp, fun a na => ?_⟩
  refine ⟨a, v, by simp, upd_same, fun dx nd da => ?_⟩
  have nd1 : H1 dx = none := by rw [upd_ne da] at nd; exact nd
  refine ⟨rfl, dx, [(("at" : Str), v)], upd_same, by rw [upd_ne da, upd_same], nd1, ?_⟩
  have same : upd (del (upd (upd (upd H1 a (exo a CA none)) dx (exd dx [(("at" : Str), v)])) a (exo a CA (some dx))) a) dx (.xd [(("at" : Str), v)]) = upd H1 dx (.xd [(("at" : Str), v)]) := by
    funext b
    by_cases h1 : b = dx
    · subst h1; rw [upd_same, upd_same]
    · rw [upd_ne h1, upd_ne h1]
      by_cases h2 : b = a
      · subst h2; rw [del_same, na]
      · rw [del_ne h2, upd_ne h2, upd_ne h1, upd_ne h2]
  show W (.ref CA) (some dx) σ (upd (del (upd (upd (upd H1 a (exo a CA none)) dx (exd dx [(("at" : Str), v)])) a (exo a CA (some dx))) a) dx (.xd [(("at" : Str), v)]))
  rw [same]
  have en : Ext (gm X).K H1 M1 (upd H1 dx (.xd [(("at" : Str), v)])) M1 := .new nd1
  refine o1.ex δ σ _ _ _ M1 en (rm1.new nd1) (rs1.mono en.toExt0) ⟨⟨x, some d⟩, ⟨CA, rfl, hm, dx, _, v, rfl, upd_same, rfl, a1.mono en.toExt0⟩, q1⟩

/-! ### try -/
theorem RS.none_ {G : Gm} {H : Hp} {M : DM} {σ : L2.St} {δ : DS} (r : RS G H M σ δ) (i : Nat) (o : Option V) : RS G H M (σ.set i o) (δ.set i none) := by
  refine ⟨by rw [List.length_set, List.length_set]; exact r.len, fun j d h => ?_⟩
  rw [List.getElem?_set] at h
  by_cases hj : i = j
  · rw [if_pos hj] at h
    split at h <;> cases h
  · rw [if_neg hj] at h
    obtain ⟨v, h1, h2⟩ := r.at_ j d h
    exact ⟨v, by rw [List.getElem?_set_ne hj]; exact h1, h2⟩
/-- the caught exception's at, its class any own one -/
def tAt (K : PySem.W.Frag) (a : Addr) (cls : Value) (d : Option Addr) (i : Nat) : TE := fun σ H Q => σ[i]? = some (some (.ref a)) ∧ ∃ C : Addr, cls = .ref C ∧ XfC K C ∧ PySem.W.findIn K (.ref C) "at" = some none ∧ ∃ dd fs v, d = some dd ∧ H dd = some (.xd fs) ∧ fs.lookup ("at" : Str) = some v ∧ Q v H
theorem pe_at {a : Addr} {o : Obj} {cls : Value} {d : Option Addr} {pn : List (Addr × Obj)} {i : Nat} {n : Str} {p pos : Pos} (hz : Zc cls d o) (hf : ∃ vs, o.data = .fields vs) (hN : X.N[i]? = some n) (hv : Vis X.env.scope n) (hd : (n == ("__debug__" : Str)) = false) (hcd : (n == ("__classdict__" : Str)) = false) :
    PE (X.suite a ((a, o) :: pn)) (.Attribute (.Name n p) "at" pos) (tAt X.K a cls d i) := by
  refine ⟨fun pins s σ H Q I h => ?_⟩
  obtain ⟨hi, CA, hcls, hx, hno, dd, fs, v, hdd, hH, hl, q⟩ := h
  exact (pe_xf hx hno hz hf (pe_var (X := X.suite a ((a, o) :: pn)) (i := i) hN hv hd hcd) rfl).run pins s σ H Q I ⟨.ref a, hi, rfl, hcls, dd, fs, v, hdd, hH, hl, q⟩
def ckTag (c : Sc) (i : Nat) (n : Str) (t : Option D) : Expr → Bool := fun e => match t with
  | none => (match e with
    | .Attribute (.Name m _) f _ => m == n && f == ("at" : Str)
    | _ => false)
  | some x => (match e with
    | .Tuple [l, .Attribute (.Name m _) f _] _ _ => m == n && f == ("at" : Str) && litB x l && notStar l
    | _ => false)
/-- what a suite's value says: the data d that the exception keeps, tagged -/
def tSu (G : Gm) (a : Addr) (cls : Value) (d : Option Addr) (i : Nat) (t : Option D) : TE := fun σ H Q => σ[i]? = some (some (.ref a)) ∧ ∃ C : Addr, cls = .ref C ∧ XfC G.K C ∧ PySem.W.findIn G.K (.ref C) "at" = some none ∧ ∃ dd fs v, d = some dd ∧ H dd = some (.xd fs) ∧ fs.lookup ("at" : Str) = some v ∧
  ∃ M y, RM G H M ∧ Rp G H M v y ∧ ∀ u H', LQ G H M (fun z M' => z = tagD t y ∧ M' = M) u H' → Q u H'
theorem pe_lit {d : D} {x : Expr} (h : litB d x = true) : ∃ v, PE X x (tC v) ∧ ∀ G H M, Rp G H M v d := by
  unfold litB at h
  split at h
  · obtain rfl := eq_of_beq h
    exact ⟨_, pe_int, fun _ _ _ => .int _⟩
  · obtain rfl := eq_of_beq h
    exact ⟨_, pe_bl, fun _ _ _ => .bl _⟩
  · exact ⟨_, pe_non, fun _ _ _ => .non⟩
  · rename_i l s _ _
    rw [Bool.and_eq_true] at h
    have e : s = mkS l := by
      have := eq_of_beq h.1
      cases s with
      | mk cps => show Str.mk cps = Str.mk l.toArray; rw [← this]
    subst e
    exact ⟨_, pe_str, fun _ _ _ => .str _ (okS_by h.2)⟩
  · cases h
theorem pe_su {a : Addr} {o : Obj} {cls : Value} {d : Option Addr} {pn : List (Addr × Obj)} {i : Nat} {n : Str} {t : Option D} {e : Expr} (hz : Zc cls d o) (hf : ∃ vs, o.data = .fields vs) (hN : X.N[i]? = some n) (hv : Vis X.env.scope n) (hp : plainName n = true) (h : ckTag c i n t e = true) :
    PE (X.suite a ((a, o) :: pn)) e (tSu (gm X) a cls d i t) := by
  have hp := plain_of hp
  unfold ckTag at h
  split at h
  · split at h
    · simp only [Bool.and_eq_true] at h
      obtain rfl := eq_of_beq h.1
      obtain rfl := eq_of_beq h.2
      refine pe_wk (pe_at hz hf hN hv hp.1 hp.2.1) ?_
      rintro σ H Q ⟨hi, CA, hcls, hx, hno, dd, fs, v, hdd, hH, hl, M, y, rm, ry, w⟩
      exact ⟨hi, CA, hcls, hx, hno, dd, fs, v, hdd, hH, hl, w v H ⟨y, M, .refl, rm, ry, rfl, rfl⟩⟩
    · cases h
  · split at h
    · simp only [Bool.and_eq_true] at h
      obtain ⟨⟨⟨h1, h2⟩, h3⟩, h4⟩ := h
      obtain rfl := eq_of_beq h1
      obtain rfl := eq_of_beq h2
      obtain ⟨v0, hl, r0⟩ := pe_lit (X := X.suite a ((a, o) :: pn)) h3
      refine pe_wk (pe_tup (pa_cons hl (pa_cons (pe_at hz hf hN hv hp.1 hp.2.1) pa_nil rfl) (star_cons h4))) ?_
      rintro σ H Q ⟨hi, CA, hcls, hx, hno, dd, fs, v, hdd, hH, hlk, M, y, rm, ry, w⟩
      refine ⟨hi, CA, hcls, hx, hno, dd, fs, v, hdd, hH, hlk, by rw [sizeLine_eq]; show 2 ≤ 16777216; decide, fun p np => ?_⟩
      exact w _ _ ⟨_, M, .new np, rm.new np, .tup (.of upd_same) two_le (.cons (r0 _ _ _) (.cons (ry.mono (Ext.new np).toExt0) .nil)), rfl, rfl⟩
    · cases h
/-! ### the suites, the clauses -/
def ckSu (c : Sc) (i : Nat) (n : Str) : Su → Stmt → Bool
  | .ret t, s => (match s with
    | .Return (some e) _ => ckTag c i n t e
    | _ => false)
  | .set j t, s => (match s with
    | .Assign [.Name y _] e _ => slotB c j y && ownB c y && notComp e && ckTag c i n t e
    | _ => false)
/-- what a suite does -/
def tSuS (G : Gm) (a : Addr) (cls : Value) (d : Option Addr) (i : Nat) : Su → TS
  | .ret t => tRet (tSu G a cls d i t)
  | .set j t => tAsg (tSu G a cls d i t) (gName j)
theorem ps_su {a : Addr} {o : Obj} {cls : Value} {d : Option Addr} {pn : List (Addr × Obj)} {i : Nat} {n : Str} {su : Su} {s : Stmt} (ok : CtxOk X W c k C) (hz : Zc cls d o) (hf : ∃ vs, o.data = .fields vs) (h1 : slotB c i n = true) (h2 : visB c n = true) (hp : plainName n = true) (h : ckSu c i n su s = true) :
    PSs (X.suite a ((a, o) :: pn)) [s] (tSuS (gm X) a cls d i su) := by
  have hN : X.N[i]? = some n := by rw [ok.N]; exact slot_of h1
  have hv : Vis X.env.scope n := ok.vis h2
  cases su with
  | ret t =>
    dsimp only [ckSu] at h
    split at h
    · exact pss_one (ps_ret (pe_su hz hf hN hv hp h))
    · cases h
  | set j t =>
    dsimp only [ckSu] at h
    split at h
    · simp only [Bool.and_eq_true] at h
      obtain ⟨⟨⟨k1, k2⟩, k3⟩, k4⟩ := h
      obtain ⟨l1, l2⟩ := ok.loc k2
      exact pss_one (ps_set (X := X.suite a ((a, o) :: pn)) (by show X.N.Nodup; rw [ok.N]; exact ok.nd) (by show X.N[j]? = _; rw [ok.N]; exact slot_of k1) l1 (pe_su hz hf hN hv hp k4) (no_swap k3) l2)
    · cases h
def ckCl (c : Sc) (z : Cz) : ExceptHandler → Bool
  | .ExceptHandler (some (.Name x _)) (some n) [s] _ => x == z.c && glB c x && slotB c z.i n && kindIs c n .local && plainName n && (c.exm.any fun q => q.2.1 == x) && (c.excs.all fun r => c.exm.contains (r, x, z.hit.contains r)) && ckSu c z.i n z.su s
  | _ => false
def ckCls (c : Sc) : List Cz → List ExceptHandler → Bool
  | [], hs => hs.isEmpty
  | z :: zs, hs => (match hs with
    | h :: hs => ckCl c z h && ckCls c zs hs
    | [] => false)
/-- the clauses over values -/
def clOf (G : Gm) (z : Cz) (B : Addr) : Cl := ⟨.ref B, z.i, fun a cls d => tSuS G a cls d z.i z.su⟩
/-- an exception of a known class: what the clauses wish of it -/
theorem cls_ok (ok : CtxOk X W c k C) : ∀ {zs : List Cz} {hs : List ExceptHandler}, ckCls c zs hs = true → ∃ cs : List Cl, ClsOk X hs cs ∧
    ∀ (E : DEnds) (D : Ends) (δ : DS) (σ : L2.St) (H : Hp) (M : DM) (e : Exc) (cl : Value) (d : Option Addr), c.excs.contains e.cls = true → EOk (gm X) H M D E W → RM (gm X) H M → RS (gm X) H M σ δ → RX (gm X) H M e cl d → clW E δ e M zs → wCls X.K X.N.length W D cs cl d σ H
  | [], hs, h => by
    cases hs with
    | nil =>
      refine ⟨[], .nil, fun E D δ σ H M e cl d hm o rm rs rx q => ?_⟩
      exact o.ex δ σ cl d H M .refl rm rs ⟨e, rx, q⟩
    | cons a b => cases h
  | z :: zs, hs, h => by
    cases hs with
    | nil => cases h
    | cons hd hs =>
      obtain ⟨h1, h2⟩ := Bool.and_eq_true_iff.mp (show (ckCl c z hd && ckCls c zs hs) = true from h)
      obtain ⟨cs, good, wish⟩ := cls_ok ok h2
      unfold ckCl at h1
      split at h1
      · rename_i x px n s ph
        simp only [Bool.and_eq_true] at h1
        obtain ⟨⟨⟨⟨⟨⟨⟨k1, k2⟩, k3⟩, k4⟩, k5⟩, k8⟩, k6⟩, k7⟩ := h1
        obtain rfl := eq_of_beq k1
        have hvis : visB c n = true := by unfold visB; rw [k4]; rfl
        obtain ⟨q0, hq0, he0⟩ := List.any_eq_true.mp k8
        obtain ⟨_, B, _, hB, _⟩ := ok.exm q0 hq0
        have he0 := eq_of_beq he0
        rw [he0] at hB
        have hN : X.N[z.i]? = some n := by rw [ok.N]; exact slot_of k3
        refine ⟨clOf (gm X) z B :: cs, .cons hN (by show X.env.scope.names.lookup n = _; rw [ok.sc]; exact kind_of k4) ⟨ok.gl k2, (gl_plain k2).1, .inl hB⟩ (fun a o cls d pn hz hf => ps_su ok hz hf k3 hvis k5 k7) good, ?_⟩
        intro E D δ σ H M e cl d hm o rm rs rx q
        have k6' := List.all_eq_true.mp k6 e.cls (List.contains_iff_mem.mp hm)
        obtain ⟨A', B', hA', hB', hex⟩ := ok.exm _ (List.contains_iff_mem.mp k6')
        obtain ⟨CA, rfl, hCA, rat⟩ := rx
        have eA : A' = CA := by
          have : some (Value.ref A') = some (Value.ref CA) := hA'.symm.trans hCA
          cases this; rfl
        have eB : B' = B := by
          have : some (Value.ref B') = some (Value.ref B) := hB'.symm.trans hB
          cases this; rfl
        subst eA eB
        obtain ⟨C3, f, F, oc, od, doc, pm, ctv, sl, hm3, T, _, _, _, _, hxf⟩ := ok.exc e.cls (List.contains_iff_mem.mp hm)
        have e3 : C3 = A' := by
          have : some (Value.ref C3) = some (Value.ref A') := hm3.symm.trans hCA
          cases this; rfl
        subst e3
        unfold clW at q
        refine ⟨z.hit.contains e.cls, hex, fun hb a na hl => ?_, fun hb => ?_⟩
        · rw [hb] at q
          cases hat : e.at_ with
          | none => rw [hat] at q; exact q.elim
          | some y =>
            rw [hat] at q rat
            obtain ⟨dx, fs, v, rfl, hdx, hlk, ry⟩ := rat
            have hlt : z.i < σ.length := by rw [hl]; exact (List.getElem?_eq_some_iff.mp hN).1
            have base : ∀ {t : Option Dw.D} {Q : VK}, (∀ u H', LQ (gm X) H M (fun z M' => z = tagD t y ∧ M' = M) u H' → Q u H') → tSu (gm X) a (.ref C3) (some dx) z.i t (σ.set z.i (some (.ref a))) H Q := fun {t Q} w =>
              ⟨List.getElem?_set_self hlt, C3, rfl, hxf, T.noat, dx, fs, v, rfl, hdx, hlk, M, y, rm, ry, w⟩
            show tSuS (gm X) a (.ref C3) (some dx) z.i z.su _ _ _
            cases hsu : z.su with
            | ret t =>
              rw [hsu] at q
              refine base fun u H' lqh => o.rt u H' ?_
              obtain ⟨d', M', e', rm', a', rfl, rfl⟩ := lqh
              exact ⟨_, _, e', rm', a', q⟩
            | set j t =>
              rw [hsu] at q
              refine base fun u H' lqh => o.nx _ H' ?_
              obtain ⟨d', M', e', rm', a', rfl, rfl⟩ := lqh
              exact ⟨_, _, e', rm', (((rs.mono e'.toExt0).none_ z.i _).set j a').none_ z.i _, q⟩
        · rw [hb] at q
          exact wish E D δ σ H M e _ d hm o rm rs ⟨C3, rfl, hCA, rat⟩ q
      · cases h1
/-- what is known of the frame of a def's body -/
structure FrOk (X : Cx) : Prop where
  st : X.stack = X.env :: X.outer
  fr : X.env.frame = some X.env.locals
theorem ds_try {body : List Stmt} {h0 : ExceptHandler} {hs : List ExceptHandler} {zs : List Cz} {p : Pos} {t : DTS} (ok : CtxOk X W c k C) (hf : FrOk X) (hc : ckCls c zs (h0 :: hs) = true)
    (hb : ∀ (V : WX) (pn : List (Addr × Obj)) (xe : Value → Shared → Prop), Takes (X.tr pn xe) V → PassesOwn (model X.prog X.w) X.A X.env xe → DSs (X.tr pn xe) V body t) :
    DSt X W (.Try body (h0 :: hs) [] [] p) fun E δ M => t { E with ex := fun δ' e M' => c.excs.contains e.cls = true ∧ clW E δ' e M' zs } δ M := by
  obtain ⟨cs, good, wish⟩ := cls_ok ok hc
  refine ps_wk (ps_try_cls (tb := fun V => upS (gm X) V t) hf.st hf.fr (by rw [ok.N]; exact ok.nd) ok.tk hb good) ?_
  rintro D σ H ⟨δ, M, E, rm, rs, q, o⟩
  refine ⟨δ, M, _, rm, rs, q, ⟨o.nx, o.rt, o.bk, o.ct, ?_⟩⟩
  rintro δ' σ' cl d H' M' e' rm' rs' ⟨e, rx, hm, qc⟩
  exact wish E D δ' σ' H' M' e cl d hm (o.then e') rm' rs' rx qc
end
end Dw
set_option Elab.async false
set_option linter.all false
set_option maxRecDepth 100000
set_option maxHeartbeats 4000000
/-! Dw13: a look at statements against S, and its soundness. -/
namespace Dw
open PySem PySem.Spec PyProof.Rows L2

/-- a, b (, c) = x, y (, z) stored name by name -/
def ckPar (c : Sc) (is : List Nat) (ts vs : List Expr) : Bool := match is, ts, vs with
  | [i, j], [.Name x px, .Name y py], [a, b] => slotB c i x && slotB c j y && decide (i ≠ j) && kindIs c x .local && kindIs c y .local && decide (swS c.sc [.Name x px, .Name y py] [a, b] = some (some [x, y]))
  | [i, j, l], [.Name x px, .Name y py, .Name z pz], [a, b, d] => slotB c i x && slotB c j y && slotB c l z && decide (i ≠ j) && decide (i ≠ l) && decide (j ≠ l) && kindIs c x .local && kindIs c y .local && kindIs c z .local &&
      decide (swS c.sc [.Name x px, .Name y py, .Name z pz] [a, b, d] = some (some [x, y, z]))
  | _, _, _ => false
/-- the pair is laid first -/
def noSwap (c : Sc) (tg v : Expr) : Bool := notTupE v || (match tg, v with
  | .Tuple ts _ _, .Tuple vs _ _ => decide (swS c.sc ts vs = some none)
  | _, _ => false)
mutual
def ckS (c : Sc) : S → Stmt → Bool
  | .set i e, x => (match x with
    | .Assign [.Name y py] v _ => slotB c i y && ownB c y && (match v with
      | .ListComp elt gens scope pos => (match swapB c y py scope pos with
        | true => kindIs c y .local && ckE c false e (.ListComp elt gens scope pos)
        | false => ckE c false e (.ListComp elt gens scope pos))
      | v => notComp v && ckE c false e v)
    | _ => false)
  | .setT t e, x => (match x with
    | .Assign [tg] v _ => ckT c tg t && notStar tg && notComp v && noSwap c tg v && ckE c false e v
    | _ => false)
  | .par is es, x => (match x with
    | .Assign [.Tuple ts _ _] (.Tuple vs _ _) _ => ckPar c is ts vs && vs.all notStar && ckA c es vs
    | _ => false)
  | .setI o i e, x => (match x with
    | .Assign [.Subscript a j _] v _ => notComp v && notSlice j && ckE c false e v && ckE c false o a && ckE c false i j
    | _ => false)
  | .aug i o e, x => (match x with
    | .AugAssign (.Name y _) p v _ => slotB c i y && ownB c y && isOp o p && augB o && ckE c false e v
    | _ => false)
  | .ex e, x => (match x with
    | .Expr v _ => notComp v && ckE c false e v
    | _ => false)
  | .ret e, x => (match x with
    | .Return (some v) _ => ckE c false e v
    | _ => false)
  | .retN, x => (match x with
    | .Return none _ => true
    | _ => false)
  | .iff q a b, x => (match x with
    | .If t u v _ => ckE c true q t && ckSs c a u && ckSs c b v
    | _ => false)
  | .whl q b, x => (match x with
    | .While t u [] _ => ckE c true q t && ckSs c b u
    | _ => false)
  | .for_ t it b, x => (match x with
    | .For tg iter u [] _ => notSet iter && ckT c tg t && ckI c it tg iter && ckSs c b u
    | _ => false)
  | .raise n e, x => (match x with
    | .Raise (some (.Call (.Name y _) [v] [] _)) none _ => y == n && c.excs.contains n && glB c n && notStar v && ckE c false e v
    | _ => false)
  | .try_ b all zs, x => (match x with
    | .Try u (h :: hs) [] [] _ => all == c.excs && ckCls c zs (h :: hs) && ckSs c b u
    | _ => false)
  | .pass, x => (match x with
    | .Pass _ => true
    | _ => false)
  | .brk, x => (match x with
    | .Break _ => true
    | _ => false)
  | .cont, x => (match x with
    | .Continue _ => true
    | _ => false)
def ckSs (c : Sc) : List S → List Stmt → Bool
  | [], xs => xs.isEmpty
  | s :: ss, xs => (match xs with
    | x :: xs => ckS c s x && ckSs c ss xs
    | [] => false)
end
theorem CtxOk.tr {X : Cx} {W V : WX} {c : Sc} {k : Nat} {C : Calls} (ok : CtxOk X W c k C) {pn : List (Addr × Obj)} {xe : Value → Shared → Prop} (tk : Takes (X.tr pn xe) V) : CtxOk (X.tr pn xe) V c k C :=
  { N := ok.N, nd := ok.nd, sc := ok.sc, calm := ok.calm, hr := ok.hr, tk := tk, con := ok.con, blt := ok.blt, call := fun i q h => let ⟨f, fd, d⟩ := ok.call i q h; ⟨f, fd, ⟨d.mg, d.keep, d.binds, d.kws, d.fn⟩⟩, fn := ok.fn, two := ok.two, exc := ok.exc, exm := ok.exm, more := ok.more, hd := ok.hd, k2 := ok.k2, act := fun a h V pn2 xe2 p1 p2 t2 => ok.act a h V pn2 xe2 p1 p2 t2 }
section
variable {C : Calls} (hC : CMono C)
include hC
mutual
theorem ckS_ok : ∀ (s : S) {X : Cx} {W : WX} {c : Sc} {k : Nat} {x : Stmt}, CtxOk X W c k C → FrOk X → PassesOwn (model X.prog X.w) X.A X.env X.xe → ckS c s x = true → DSt X W x (wpS C s)
  | .set i e, X, W, c, k, x, ok, fo, hp, h => by
    unfold ckS at h
    split at h
    · rename_i y py v p
      simp only [Bool.and_eq_true] at h
      obtain ⟨⟨h1, h2⟩, h3⟩ := h
      split at h3
      · rename_i elt gens scope pos
        split at h3
        · rename_i hs
          rw [Bool.and_eq_true] at h3
          obtain ⟨h3, h⟩ := h3
          cases e with
          | lc m e own t it cs =>
            unfold ckE at h
            split at h
            · rename_i elt tg iter ifs scope' pos' heq
              injection heq with e1 e2 e3 e4
              subst e1 e2 e3 e4
              simp only [Bool.and_eq_true, List.all_eq_true] at h
              obtain ⟨⟨⟨⟨⟨⟨⟨k1, k2⟩, k3⟩, k4⟩, k5⟩, k6⟩, k7⟩, k8⟩ := h
              have ho := eq_of_beq k2
              have r := ds_setLc (m := m) (px := py) (spos := p) (pos := pos) ok h1 h3 hs (blkOk_by k1) k3 (fun i hi => by rw [ho]; exact List.contains_iff_mem.mp (k4 i hi)) k5 (ckI_ok hC it ok k6)
                (fun s H D cl fp => ckC_ok hC cs (ok.blk s H D cl fp) k7) (fun s H D cl fp => ckE_ok hC (q := false) e (ok.blk s H D cl fp) k8)
              rw [ho] at r
              exact r
            · cases h
          | lit d => cases d <;> cases h
          | _ => cases h
        · rename_i hs
          exact ds_setLcN ok h1 h2 hs (ckE_ok hC (q := false) e ok h3)
      · rw [Bool.and_eq_true] at h3
        exact ds_set ok h1 h2 h3.1 (ckE_ok hC (q := false) e ok h3.2)
    · cases h
  | .setT t e, X, W, c, k, x, ok, fo, hp, h => by
    unfold ckS at h
    split at h
    · simp only [Bool.and_eq_true] at h
      obtain ⟨⟨⟨⟨h1, h2⟩, h3⟩, h4⟩, h5⟩ := h
      refine ds_asg ok h1 h3 ?_ h2 (ckE_ok hC (q := false) e ok h5)
      unfold noSwap at h4
      rw [Bool.or_eq_true] at h4
      rcases h4 with h4 | h4
      · exact no_stores h4
      · split at h4
        · exact sw_stores (by rw [ok.sc]; exact of_decide_eq_true h4)
        · cases h4
    · cases h
  | .par is es, X, W, c, k, x, ok, fo, hp, h => by
    unfold ckS at h
    split at h
    · simp only [Bool.and_eq_true] at h
      obtain ⟨⟨h1, h2⟩, h3⟩ := h
      have hA := ckA_ok hC es ok h2 h3
      unfold ckPar at h1
      split at h1
      · simp only [Bool.and_eq_true, decide_eq_true_eq] at h1
        obtain ⟨⟨⟨⟨⟨k1, k2⟩, k3⟩, k4⟩, k5⟩, k6⟩ := h1
        exact ds_par2 ok k1 k2 k3 k4 k5 k6 hA
      · simp only [Bool.and_eq_true, decide_eq_true_eq] at h1
        obtain ⟨⟨⟨⟨⟨⟨⟨⟨⟨k1, k2⟩, k3⟩, k4⟩, k5⟩, k6⟩, k7⟩, k8⟩, k9⟩, k10⟩ := h1
        exact ds_par3 ok k1 k2 k3 k4 k5 k6 k7 k8 k9 k10 hA
      · cases h1
    · cases h
  | .setI o i e, X, W, c, k, x, ok, fo, hp, h => by
    unfold ckS at h
    split at h
    · simp only [Bool.and_eq_true] at h
      obtain ⟨⟨⟨⟨h1, h2⟩, h3⟩, h4⟩, h5⟩ := h
      exact ds_setI h1 h2 (ckE_ok hC (q := false) e ok h3) (ckE_ok hC (q := false) o ok h4) (ckE_ok hC (q := false) i ok h5)
    · cases h
  | .aug i o e, X, W, c, k, x, ok, fo, hp, h => by
    unfold ckS at h
    split at h
    · simp only [Bool.and_eq_true] at h
      obtain ⟨⟨⟨⟨h1, h2⟩, h3⟩, h4⟩, h5⟩ := h
      obtain rfl := isOp_eq h3
      exact ds_aug ok h1 h2 h4 (ckE_ok hC (q := false) e ok h5)
    · cases h
  | .ex e, X, W, c, k, x, ok, fo, hp, h => by
    unfold ckS at h
    split at h
    · rw [Bool.and_eq_true] at h
      exact ds_ex (ckE_ok hC (q := false) e ok h.2) h.1
    · cases h
  | .ret e, X, W, c, k, x, ok, fo, hp, h => by
    unfold ckS at h
    split at h
    · exact ds_ret (ckE_ok hC (q := false) e ok h)
    · cases h
  | .retN, X, W, c, k, x, ok, fo, hp, h => by
    unfold ckS at h
    split at h
    · exact ds_retN
    · cases h
  | .iff q a b, X, W, c, k, x, ok, fo, hp, h => by
    unfold ckS at h
    split at h
    · simp only [Bool.and_eq_true] at h
      have r := ds_if (p := by assumption) (ckE_ok hC (q := true) q ok h.1.1).1 (ckSs_ok a ok fo hp h.1.2) (ckSs_ok b ok fo hp h.2)
      exact ps_wk r fun D σ H z => by
        obtain ⟨δ, M, E, rm, rs, z, o⟩ := z
        unfold wpS at z
        exact ⟨δ, M, E, rm, rs, z, o⟩
    · cases h
  | .whl q b, X, W, c, k, x, ok, fo, hp, h => by
    unfold ckS at h
    split at h
    · simp only [Bool.and_eq_true] at h
      exact ps_wk (ds_while (p := by assumption) hp (ckE_ok hC (q := true) q ok h.1).1 (ckSs_ok b ok fo hp h.2)) fun D σ H z => by
        obtain ⟨δ, M, E, rm, rs, z, o⟩ := z
        unfold wpS at z
        exact ⟨δ, M, E, rm, rs, z, o⟩
    · cases h
  | .for_ t it b, X, W, c, k, x, ok, fo, hp, h => by
    unfold ckS at h
    split at h
    · simp only [Bool.and_eq_true] at h
      exact ps_wk (ds_for (p := by assumption) ok hp h.1.1.1 h.1.1.2 (ckI_ok hC it ok h.1.2) (ckSs_ok b ok fo hp h.2)) fun D σ H z => by
        obtain ⟨δ, M, E, rm, rs, z, o⟩ := z
        unfold wpS at z
        exact ⟨δ, M, E, rm, rs, z, o⟩
    · cases h
  | .raise n e, X, W, c, k, x, ok, fo, hp, h => by
    unfold ckS at h
    split at h
    · simp only [Bool.and_eq_true] at h
      obtain ⟨⟨⟨⟨h1, h2⟩, h3⟩, h4⟩, h5⟩ := h
      obtain rfl := eq_of_beq h1
      exact ds_raise ok h2 h3 h4 (ckE_ok hC (q := false) e ok h5)
    · cases h
  | .try_ b all zs, X, W, c, k, x, ok, fo, hp, h => by
    unfold ckS at h
    split at h
    · simp only [Bool.and_eq_true] at h
      obtain ⟨⟨h1, h2⟩, h3⟩ := h
      obtain rfl := eq_of_beq h1
      exact ps_wk (ds_try (p := by assumption) ok fo h2 fun V pn xe tk own => ckSs_ok b (ok.tr tk) ⟨fo.st, fo.fr⟩ own h3) fun D σ H z => by
        obtain ⟨δ, M, E, rm, rs, z, o⟩ := z
        unfold wpS at z
        exact ⟨δ, M, E, rm, rs, z, o⟩
    · cases h
  | .pass, X, W, c, k, x, ok, fo, hp, h => by
    unfold ckS at h
    split at h
    · exact ds_pass
    · cases h
  | .brk, X, W, c, k, x, ok, fo, hp, h => by
    unfold ckS at h
    split at h
    · exact ds_brk
    · cases h
  | .cont, X, W, c, k, x, ok, fo, hp, h => by
    unfold ckS at h
    split at h
    · exact ds_cont
    · cases h
theorem ckSs_ok : ∀ (ss : List S) {X : Cx} {W : WX} {c : Sc} {k : Nat} {xs : List Stmt}, CtxOk X W c k C → FrOk X → PassesOwn (model X.prog X.w) X.A X.env X.xe → ckSs c ss xs = true → DSs X W xs (wpSs C ss)
  | [], X, W, c, k, xs, ok, fo, hp, h => by
    cases xs with
    | nil => exact ds_nil
    | cons x xs => cases h
  | s :: ss, X, W, c, k, xs, ok, fo, hp, h => by
    cases xs with
    | nil => cases h
    | cons x xs =>
      obtain ⟨h1, h2⟩ := Bool.and_eq_true_iff.mp (show (ckS c s x && ckSs c ss xs) = true from h)
      exact pss_wk (ds_cons (ckS_ok s ok fo hp h1) (ckSs_ok ss ok fo hp h2)) fun D σ H z => by
        obtain ⟨δ, M, E, rm, rs, z, o⟩ := z
        unfold wpSs at z
        exact ⟨δ, M, E, rm, rs, z, o⟩
end
end
end Dw
set_option Elab.async false
set_option linter.all false
set_option maxRecDepth 100000
set_option maxHeartbeats 4000000
/-! Dw14: what a def made is forgotten behind it; the defs of a program, each by its level. -/
namespace Dw
open PySem PySem.Spec PyProof.Rows L2

section
variable {G : Gm} {H H' : Hp} {M M1 : DM}
mutual
/-- plain data stand without what is written -/
theorem Rp.plain : ∀ {v : V} {d : D}, Rp G H M1 v d → plainD d = true → Rp G H M v d
  | _, _, .non, _ => .non
  | _, _, .bl b, _ => .bl b
  | _, _, .int i, _ => .int i
  | _, _, .str l z, _ => .str l z
  | _, _, .tup s z r, h => .tup s z (Rps.plain r h)
  | _, _, .lst s z r, h => .lst s z (Rps.plain r h)
  | _, _, .ref _, h => by cases h
  | _, _, .glo _, h => by cases h
  | _, _, .scr _ _ _, h => by cases h
  | _, _, .fnv _ _, h => by cases h
theorem Rps.plain : ∀ {vs : List V} {ds : List D}, Rps G H M1 vs ds → plainDs ds = true → Rps G H M vs ds
  | _, _, .nil, _ => .nil
  | _, _, .cons a r, h => by
    obtain ⟨h1, h2⟩ := Bool.and_eq_true_iff.mp (show (plainD _ && plainDs _) = true from h)
    exact .cons (Rp.plain a h1) (Rps.plain r h2)
end
mutual
/-- data that stood ahead of the call stand behind it without what the call made -/
theorem Rp.back {H0 : Hp} : ∀ {v0 v : V} {d : D}, Rp G H0 M v0 d → Rp G H' M1 v d → Rp G H' M v d
  | _, _, _, _, .non => .non
  | _, _, _, _, .bl b => .bl b
  | _, _, _, _, .int i => .int i
  | _, _, _, _, .str l z => .str l z
  | _, _, _, .tup _ _ r0, .tup s z r => .tup s z (Rps.back r0 r)
  | _, _, _, .lst _ _ r0, .lst s z r => .lst s z (Rps.back r0 r)
  | _, _, _, .ref h0, .ref _ => .ref h0
  | _, _, _, _, .glo h => .glo h
  | _, _, _, .scr _ _ r0, .scr s z r => .scr s z (Rps.back r0 r)
  | _, _, _, .fnv _ r0, .fnv h r => .fnv h (RsO.back r0 r)
theorem Rps.back {H0 : Hp} : ∀ {vs0 vs : List V} {ds : List D}, Rps G H0 M vs0 ds → Rps G H' M1 vs ds → Rps G H' M vs ds
  | _, _, _, _, .nil => .nil
  | _, _, _, .cons a0 r0, .cons a r => .cons (Rp.back a0 a) (Rps.back r0 r)
theorem RsO.back {H0 : Hp} : ∀ {σ0 σ : List (Option V)} {δ : List (Option D)}, RsO G H0 M σ0 δ → RsO G H' M1 σ δ → RsO G H' M σ δ
  | _, _, _, _, .nil => .nil
  | _, _, _, .skip r0, .skip r => .skip (RsO.back r0 r)
  | _, _, _, .keep a0 r0, .keep a r => .keep (Rp.back a0 a) (RsO.back r0 r)
end
theorem RM.back (r0 : RM G H M) (r : RM G H' M1) (k : Kept M M1) : RM G H' M := ⟨fun a mo h => by
  have h0 := r0.o a mo h
  have h1 := r.o a mo (k a mo h)
  cases mo with
  | lst ds =>
    obtain ⟨xs0, _, q0⟩ := h0
    obtain ⟨xs, e, q⟩ := h1
    exact ⟨xs, e, q0.back q⟩
  | dct kvs =>
    obtain ⟨vs0, _, _, q0⟩ := h0
    obtain ⟨vs, e, ek, q⟩ := h1
    exact ⟨vs, e, ek, q0.back q⟩, r.t⟩
theorem Ext.back {K : PySem.W.Frag} (e : Ext K H M H' M1) : Ext K H M H' M := ⟨⟨e.t, e.l, fun b mo h => ⟨mo, h⟩, e.x, e.e⟩, fun b xs h n => ⟨(e.s b xs h n).1, n⟩⟩
theorem LQ.back {gc : Bool} {Q : QD} (r0 : RM G H M) {v : V} (h : LQ G H M (backQ gc M Q) v H') : LQ G H M Q v H' := by
  obtain ⟨d, M', e, r, a, q⟩ := h
  cases gc with
  | false => exact ⟨d, M', e, r, a, q⟩
  | true => exact ⟨d, M, e.back, r0.back r q.2.1, a.plain q.1, q.2.2⟩
theorem RX.plain {e : Exc} {c : Value} {d : Option Addr} (h : e.at_.all plainD = true) (r : RX G H M1 e c d) : RX G H M e c d := by
  obtain ⟨C, h1, h2, h3⟩ := r
  refine ⟨C, h1, h2, ?_⟩
  cases ha : e.at_ with
  | none => trivial
  | some y =>
    rw [ha] at h3 h
    obtain ⟨dx, fs, v, k1, k2, k3, k4⟩ := h3
    exact ⟨dx, fs, v, k1, k2, k3, k4.plain h⟩
theorem LX.back {gc : Bool} {Q : QX} (r0 : RM G H M) {c : Value} {d : Option Addr} (h : LX G H M (backX gc M Q) c d H') : LX G H M Q c d H' := by
  obtain ⟨x, M', e, r, a, q⟩ := h
  cases gc with
  | false => exact ⟨x, M', e, r, a, q⟩
  | true => exact ⟨x, M, e.back, r0.back r q.2.1, a.plain q.1, q.2.2⟩
end

/-- a def as it is written -/
structure DefS where
  name : Str
  args : Arguments
  body : List Stmt
  scope : Scope
  ps : List Str
  js : List Nat
/-- the module: constants, free names, own exception classes, which clause takes which -/
structure Mo where
  con : List (Str × D)
  blts : List Str
  excs : List Str
  exm : List (Str × Str × Bool)
  hds : List Nat := []
def scOf (ds : List DefS) (m : Mo) (f : Fn) (d : DefS) : Sc := { N := f.N, sc := d.scope, fnS := fun _ => true, defs := ds.map fun d => (d.name, d.ps, d.js), con := m.con, blts := m.blts, excs := m.excs, exm := m.exm, top := true, act := none, hds := m.hds }
def hdOf (ds : List DefS) (m : Mo) (f : Fn) (d : DefS) (a : Str) : Sc := { scOf ds m f d with top := false, act := some a, hds := [] }
def scopeB (N P : List Str) (sc : Scope) : Bool := (match sc.kind with | .function => true | _ => false) && !sc.isCoroutine && !sc.isGenerator && decide N.Nodup && decide (N.take P.length = P) &&
  (P.all fun x => decide (sc.names.lookup x = some .local) || decide (sc.names.lookup x = some .cell)) && (sc.names.all fun y => decide (y.2 ≠ .free))
theorem scope_by {N P : List Str} {sc : Scope} (h : scopeB N P sc = true) : FnScope N P sc := by
  unfold scopeB at h
  simp only [Bool.and_eq_true, List.all_eq_true, decide_eq_true_eq, Bool.not_eq_true', Bool.or_eq_true] at h
  obtain ⟨⟨⟨⟨⟨⟨h1, h2⟩, h3⟩, h4⟩, h5⟩, h6⟩, h7⟩ := h
  refine ⟨?_, h2, h3, h4, h5, h6, h7⟩
  split at h1
  · assumption
  · cases h1
def ckFn (ds : List DefS) (m : Mo) (f : Fn) (d : DefS) : Bool := f.ps == d.ps.length && scopeB f.N d.ps d.scope && (match f.hd with
  | false => ckSs (scOf ds m f d) f.body d.body
  | true => (match d.ps with
    | [a] => plainName a && ckSs (hdOf ds m f d a) f.body d.body
    | _ => false))
/-- the defs that get a lambda are marked -/
def ckHds (m : Mo) (pg : Pg) : Bool := m.hds.all fun i => match pg[i]? with
  | some f => f.hd
  | none => false
/-- no table is two defs' -/
def tabU (K : PySem.W.Frag) : Bool := (tabK K).all fun p => (tabK K).all fun r => !decide (p.1 = r.1) || decide (p.2 = r.2)
theorem tabU_ok {K : PySem.W.Frag} (h : tabU K = true) {p r : Addr × Str} (hp : p ∈ tabK K) (hr : r ∈ tabK K) (e : r.1 = p.1) : r.2 = p.2 := by
  have := List.all_eq_true.mp (List.all_eq_true.mp h p hp) r hr
  rw [Bool.or_eq_true, Bool.not_eq_true', decide_eq_false_iff_not, decide_eq_true_eq] at this
  rcases this with h | h
  · exact absurd e.symm h
  · exact h.symm
def ckPg (ds : List DefS) (m : Mo) : Pg → List DefS → Bool
  | [], [] => true
  | f :: fs, d :: dss => ckFn ds m f d && ckPg ds m fs dss
  | _, _ => false
theorem ckPg_at {ds : List DefS} {m : Mo} : ∀ {P : Pg} {dss : List DefS}, ckPg ds m P dss = true → ∀ (i : Nat) (d : DefS), dss[i]? = some d → ∃ f : Fn, P[i]? = some f ∧ ckFn ds m f d = true
  | [], [], _, i, d, h => by simp at h
  | f :: fs, d0 :: dss, h, i, d, hd => by
    obtain ⟨h1, h2⟩ := Bool.and_eq_true_iff.mp (show (ckFn ds m f d0 && ckPg ds m fs dss) = true from h)
    cases i with
    | zero => cases hd; exact ⟨f, rfl, h1⟩
    | succ i => exact ckPg_at h2 i d hd
  | [], _ :: _, h, _, _, _ => by cases h
  | _ :: _, [], h, _, _, _ => by cases h
section
variable {P : Program} {w : World} {K : PySem.W.Frag} {mg : Str → Option Value} {base : Heap} {pg : Pg} {ds : List DefS} {m : Mo}
theorem callW_run {pg : Pg} {k i : Nat} {f : Fn} {es : List D} {M : DM} {Qx : QX} {Q : QD} (h : pg[i]? = some f) : (callW pg (k + 1)).run i es M Qx Q =
    (f.hd = false ∧ es.length = f.ps ∧ wpSs (callW pg k) f.body { nx := fun _ M1 => backQ f.gc M Q .non M1, rt := backQ f.gc M Q, ex := fun _ => backX f.gc M Qx } (start f es) M) := by
  show (match pg[i]? with
    | none => False
    | some f => f.hd = false ∧ es.length = f.ps ∧ wpSs (callW pg k) f.body { nx := fun _ M1 => backQ f.gc M Q .non M1, rt := backQ f.gc M Q, ex := fun _ => backX f.gc M Qx } (start f es) M) = _
  rw [h]
theorem callW_lam {pg : Pg} {k i : Nat} {f : Fn} {a : DM → QX → QD → Prop} {M : DM} {Qx : QX} {Q : QD} (h : pg[i]? = some f) : (callW pg (k + 1)).lam i a M Qx Q =
    (f.hd = true ∧ ∀ v, wpSs { callW pg k with act := fun d M Qx Q => d = v ∧ a M Qx Q } f.body { nx := fun _ M1 => Q .non M1, rt := Q, ex := fun _ => Qx } (some v :: List.replicate (f.N.length - 1) none) M) := by
  show (match pg[i]? with
    | none => False
    | some f => f.hd = true ∧ ∀ v, wpSs { callW pg k with act := fun d M Qx Q => d = v ∧ a M Qx Q } f.body { nx := fun _ M1 => Q .non M1, rt := Q, ex := fun _ => Qx } (some v :: List.replicate (f.N.length - 1) none) M) = _
  rw [h]
/-- what the head knows of a def -/
structure DefInfo (K : PySem.W.Frag) (mg : Str → Option Value) (d : DefS) (f : Addr) (fd : FuncData) : Prop where
  mg : mg d.name = some (.ref f)
  fun_ : FunD K d.name d.name d.args d.body d.scope [] [] f fd
  binds : Binds K fd d.ps []
  kws : ∀ j ∈ d.js, ∀ us ws : List Value, us.length = j → us.length + ws.length = d.ps.length → bindArgs fd ⟨us, (d.ps.drop j).zip ws⟩ = pure (d.ps.zip (us ++ ws))
theorem start_rs {G : Gm} {H : Hp} {M : DM} {f : Fn} {vs : List V} {es : List D} (r : Rps G H M vs es) : RS G H M (L2.start f.N vs) (start f es) := by
  refine ⟨by simp [L2.start, start, r.length], fun i d h => ?_⟩
  unfold start at h
  unfold L2.start
  rw [List.getElem?_append] at h ⊢
  rw [List.length_map] at h ⊢
  rw [r.length]
  split at h
  · rename_i hl
    rw [if_pos hl]
    rw [List.getElem?_map] at h
    cases e : es[i]? with
    | none => rw [e] at h; cases h
    | some d' =>
      rw [e] at h
      cases h
      obtain ⟨v, hv, a⟩ := r.get e
      exact ⟨v, by rw [List.getElem?_map, hv]; rfl, a⟩
  · rw [List.getElem?_replicate] at h
    split at h <;> cases h
theorem lookup_in {K : PySem.W.Frag} {a : Addr} {o : Obj} : ∀ {l : List (Addr × Obj)}, l.lookup a = some o → (a, o) ∈ l := He.lookup_mem
/-- what a def's frame knows of its table -/
theorem top_ok {N : List Str} {A : Around} {outer : List Env} {s : Shared} {H : Hp} {E : XK} {CX : CXT} {scope : Scope} {name : Str} {params : Arguments} {body : List Stmt} {f : Addr} {dV kV doc pm cdv ct oc : Value} {an od : Option Addr} {osl : Array (Option Value)} {k : Nat}
    (lk : K.lookup f = some ⟨oc, od, .func (PySem.W.fnOf name name params body scope dV kV doc pm an cdv ct), osl⟩) (hcd : PySem.W.codeIn K cdv name = true) (hTB : ∀ p ∈ csK K, LamX.TabB base mg p.1 p.2) (hU : tabU K = true)
    (hr : Room (k + 2) (A.deeper (envOfC name scope s.heap.objs.size f cdv))) : TopOk (cxOf CX P w K mg base N name scope f cdv A outer s H E) k := by
  have hc : ∃ c0, cdv = .ref c0 := by
    unfold PySem.W.codeIn at hcd
    split at hcd
    · exact ⟨_, rfl⟩
    · cases hcd
  obtain ⟨c0, rfl⟩ := hc
  have mem : (c0, lamQ name) ∈ fnsK K := List.mem_filterMap.mpr ⟨(f, _), He.lookup_mem lk, rfl⟩
  have mt : (He.tabOf K c0, lamQ name) ∈ tabK K := List.mem_map.mpr ⟨(c0, lamQ name), mem, rfl⟩
  exact ⟨hr, c0, He.tabOf K c0, rfl, hTB (c0, He.tabOf K c0) (List.mem_map.mpr ⟨(c0, lamQ name), mem, rfl⟩), mt, fun p hp e => tabU_ok hU mt hp e⟩
theorem fn_lvl (hck : ckPg ds m pg ds = true) (hhd : ckHds m pg = true) (hcon : ∀ (i : Nat) (q : Str × D), m.con[i]? = some q → ∃ u v, mg q.1 = some u ∧ RelV v u ∧ ∀ H M, Rp ⟨K, mg⟩ H M v q.2) (hblt : ∀ x ∈ m.blts, mg x = none) (hexc : ∀ x ∈ m.excs, ExcOk P K mg x)
    (hexm : ∀ q ∈ m.exm, ∃ A B : Addr, mg q.1 = some (.ref A) ∧ mg q.2.1 = some (.ref B) ∧ PySem.W.exmOne K (.ref A) (.ref B) = some q.2.2) (hTB : ∀ p ∈ csK K, LamX.TabB base mg p.1 p.2) (hU : tabU K = true)
    (hdef : ∀ (i : Nat) (d : DefS), ds[i]? = some d → ∃ f fd, DefInfo K mg d f fd) : ∀ k : Nat, (∀ (i : Nat) (d : DefS) (f : Addr) (fd : FuncData), ds[i]? = some d → DefInfo K mg d f fd → FnOk P w K mg base (L2.CX P w) (3 * k + 2) f fd d.ps (spD ⟨K, mg⟩ ((callW pg k).run i))) ∧
      ∀ (i : Nat) (d : DefS), i ∈ m.hds → ds[i]? = some d → HdOk P w K mg base (3 * k + 2) ((callW pg k).lam i) d.name := by
  -- what both levels need of a def that gets a lambda
  have hdsOf : ∀ (i : Nat) (d : DefS), i ∈ m.hds → ds[i]? = some d → ∃ (fn : Fn) (a : Str), pg[i]? = some fn ∧ fn.hd = true ∧ fn.ps = d.ps.length ∧ d.ps = [a] ∧ plainName a = true ∧ FnScope fn.N d.ps d.scope ∧ ckSs (hdOf ds m fn d a) fn.body d.body = true := fun i d hi hd => by
    obtain ⟨fn, hfn, hc⟩ := ckPg_at hck i d hd
    have h1 := List.all_eq_true.mp hhd i hi
    simp only [hfn] at h1
    unfold ckFn at hc
    rw [h1] at hc
    simp only [Bool.and_eq_true] at hc
    obtain ⟨⟨hps, hsc⟩, hb⟩ := hc
    split at hb
    · rename_i a hpa
      rw [Bool.and_eq_true] at hb
      exact ⟨fn, a, hfn, h1, eq_of_beq hps, hpa, hb.1, scope_by hsc, hb.2⟩
    · cases hb
  have calls : ∀ k : Nat, (∀ (i : Nat) (d : DefS) (f : Addr) (fd : FuncData), ds[i]? = some d → DefInfo K mg d f fd → FnOk P w K mg base (L2.CX P w) (3 * k + 2) f fd d.ps (spD ⟨K, mg⟩ ((callW pg k).run i))) →
      ∀ (j : Nat) (q : Str × List Str × List Nat), (ds.map fun d => (d.name, d.ps, d.js))[j]? = some q → ∃ (f : Addr) (fd : FuncData), mg q.1 = some (.ref f) ∧ PySem.W.keepIn K (.ref f) = true ∧ Binds K fd q.2.1 [] ∧
        (∀ j ∈ q.2.2, ∀ us ws : List Value, us.length = j → us.length + ws.length = q.2.1.length → bindArgs fd ⟨us, (q.2.1.drop j).zip ws⟩ = pure (q.2.1.zip (us ++ ws))) ∧ FnOk P w K mg base (L2.CX P w) (3 * k + 2) f fd q.2.1 (spD ⟨K, mg⟩ ((callW pg k).run j)) := fun k ih j q hq => by
    rw [List.getElem?_map] at hq
    cases e : ds[j]? with
    | none => rw [e] at hq; cases hq
    | some d2 =>
      rw [e] at hq
      cases hq
      obtain ⟨f2, fd2, F2⟩ := hdef j d2 e
      exact ⟨f2, fd2, F2.mg, F2.fun_.kp, F2.binds, F2.kws, ih j d2 f2 fd2 e F2⟩
  have hdInfo : ∀ (i : Nat) (d : DefS) (CL : (DM → QX → QD → Prop) → DM → QX → QD → Prop) (k : Nat), i ∈ m.hds → ds[i]? = some d →
      (∀ (fn : Fn) (a : Str) (f0 : Addr) (cdv : Value), pg[i]? = some fn → fn.hd = true → d.ps = [a] → ckSs (hdOf ds m fn d a) fn.body d.body = true → FnScope fn.N [a] d.scope → ∀ (A : Around) (outer : List Env) (s : Shared) (H : Hp) (E : XK) (act : DM → QX → QD → Prop) (v : D), AMono act → Room k (A.deeper (envOfC d.name d.scope s.heap.objs.size f0 cdv)) →
        (∀ (V : WX) (pn : List (Addr × Obj)) (xe : Value → Shared → Prop) (p1 p2 : Pos), Takes ((cxOf (L2.CX P w) P w K mg base fn.N d.name d.scope f0 cdv A outer s H E).tr pn xe) V →
          PE ((cxOf (L2.CX P w) P w K mg base fn.N d.name d.scope f0 cdv A outer s H E).tr pn xe) (.Call (.Name a p1) [] [] p2) (up ⟨K, mg⟩ V fun δ M Qx Q => match lookD δ 0 with
            | some d => d = v ∧ act M Qx Q
            | none => False)) →
        ∀ (f : Addr) (M : DM) (Qx : QX) (Q : QD) (Qv : VK), RM ⟨K, mg⟩ H M → Rp ⟨K, mg⟩ H M (.ref f) v → CL act M Qx Q → (∀ u H', LQ ⟨K, mg⟩ H M Q u H' → Qv u H') → (∀ c d H', LX ⟨K, mg⟩ H M Qx c d H' → E c d H') →
          ∃ t, PSs (cxOf (L2.CX P w) P w K mg base fn.N d.name d.scope f0 cdv A outer s H E) d.body t ∧ t { nx := fun _ H' => Qv .non H', rt := Qv } (L2.start fn.N [.ref f]) H) → HdOk P w K mg base k CL d.name := fun i d CL k hi hd run => by
    obtain ⟨fn, a, hfn, hhd, hps, hpa, hpl, S, hb⟩ := hdsOf i d hi hd
    obtain ⟨f0, fd0, F0⟩ := hdef i d hd
    obtain ⟨oc, od, dV, kV, doc, pm, an, cdv, ct, osl, rfl, lk, hcd, hD, hK⟩ := F0.fun_.ex
    have S : FnScope fn.N [a] d.scope := hpa ▸ S
    have hb2 : Binds K (PySem.W.fnOf d.name d.name d.args d.body d.scope dV kV doc pm an cdv ct) [a] [] := hpa ▸ F0.binds
    refine ⟨f0, fn.N, a, d.args, d.body, d.scope, dV, kV, doc, pm, cdv, ct, oc, an, od, osl, F0.mg, F0.fun_.kp, lk, hcd, hb2, S, ?_, ?_, hpl, run fn a f0 cdv hfn hhd hpa hb S⟩
    · have := S.pre
      cases hN : fn.N with
      | nil => rw [hN] at this; cases this
      | cons x xs =>
        rw [hN] at this
        have : x = a := by simpa using this
        rw [this]
        rfl
    · rcases S.par a (by simp) with h | h
      · exact .inl h
      · exact .inr (.inl h)
  intro k
  induction k with
  | zero =>
    refine ⟨fun i d f fd hd F => ?_, fun i d hi hd => hdInfo i d _ _ hi hd ?_⟩
    · refine ⟨fun vs H Q E h => ?_, fun A outer s H args us vs Q E hr he hb hv h => ?_⟩
      · obtain ⟨_, _, _, _, _, _, z, _⟩ := h
        exact z.elim
      · obtain ⟨_, _, _, _, _, _, z, _⟩ := h
        exact z.elim
    · intro fn a f0 cdv _ _ _ _ _ A outer s H E act v _ _ _ f M Qx Q Qv _ _ z _ _
      exact z.elim
  | succ k ih =>
    obtain ⟨ihF, ihH⟩ := ih
    have ctx : ∀ {N : List Str} {A : Around} {outer : List Env} {s : Shared} {H : Hp} {E : XK} {d : DefS} {f : Addr} {cdv : Value} (act : D → DM → QX → QD → Prop) (sc : Sc), N.Nodup → Room (3 * k + 4) (A.deeper (envOfC d.name d.scope s.heap.objs.size f cdv)) →
        sc.N = N → sc.sc = d.scope → (∀ x, sc.fnS x = true) → sc.defs = (ds.map fun d => (d.name, d.ps, d.js)) → sc.con = m.con → sc.blts = m.blts → sc.excs = m.excs → sc.exm = m.exm → (∀ i ∈ sc.hds, i ∈ m.hds) →
        (sc.top = true → TopOk (cxOf (L2.CX P w) P w K mg base N d.name d.scope f cdv A outer s H E) (3 * k + 2)) → (∀ i, i ∈ sc.hds → act = (callW pg k).act ∨ True) →
        (∀ a, sc.act = some a → ∀ (V : WX) (pn : List (Addr × Obj)) (xe : Value → Shared → Prop) (p1 p2 : Pos), Takes ((cxOf (L2.CX P w) P w K mg base N d.name d.scope f cdv A outer s H E).tr pn xe) V →
          PE ((cxOf (L2.CX P w) P w K mg base N d.name d.scope f cdv A outer s H E).tr pn xe) (.Call (.Name a p1) [] [] p2) (up ⟨K, mg⟩ V fun δ M Qx Q => match lookD δ 0 with
            | some d => act d M Qx Q
            | none => False)) →
        CtxOk (cxOf (L2.CX P w) P w K mg base N d.name d.scope f cdv A outer s H E) (fun cls dd _ H' => E cls dd H') sc (3 * k + 2) { callW pg k with act := act } := fun {N A outer s H E d f cdv} act sc nd hr e1 e2 e3 e4 e5 e6 e7 e8 e9 ht _ ha => {
      N := e1.symm
      nd := e1 ▸ nd
      sc := e2.symm
      calm := rfl
      hr := hr.mono (by omega)
      tk := takes_of rfl rfl rfl rfl
      con := by rw [e5]; exact hcon
      blt := by rw [e6]; exact hblt
      call := fun j q hq => by
        rw [e4] at hq
        obtain ⟨f2, fd2, g1, g2, g3, g4, g5⟩ := calls k ihF j q hq
        exact ⟨f2, fd2, ⟨g1, g2, g3, g4, g5⟩⟩
      fn := fun _ _ => rfl
      two := hr.mono (by omega)
      k2 := by omega
      exc := by rw [e7]; exact hexc
      exm := by rw [e8]; exact hexm
      more := ht
      hd := fun i hi q hq => by
        rw [e4, List.getElem?_map] at hq
        cases e : ds[i]? with
        | none => rw [e] at hq; cases hq
        | some d2 =>
          rw [e] at hq
          cases hq
          exact ihH i d2 (e9 i hi) e
      act := ha }
    refine ⟨fun i d f fd hd F => ?_, fun i d hi hd => hdInfo i d _ _ hi hd ?_⟩
    · obtain ⟨fn, hfn, hc⟩ := ckPg_at hck i d hd
      unfold ckFn at hc
      simp only [Bool.and_eq_true] at hc
      obtain ⟨⟨hps, hsc⟩, hbody⟩ := hc
      have hps := eq_of_beq hps
      have S := scope_by hsc
      obtain ⟨oc, od, dV, kV, doc, pm, an, cdv, ct, osl, rfl, lk, hcd, _, _⟩ := F.fun_.ex
      show FnOk P w K mg base (L2.CX P w) ((3 * k + 4) + 1) f _ d.ps _
      refine fn_of lk hcd S (fun vs H Q E h => ?_) (fun A outer s H vs Q E hr h => ?_)
      · obtain ⟨M, es, Qd, Qx, rm, rs, z, _⟩ := h
        rw [callW_run hfn] at z
        rw [rs.length, z.2.1, hps]
      · obtain ⟨M, es, Qd, Qx, rm, rs, z, wq, wx⟩ := h
        rw [callW_run hfn] at z
        rw [z.1] at hbody
        have ok := ctx (E := E) (outer := outer) (H := H) (callW pg k).act (scOf ds m fn d) S.nd hr rfl rfl (fun _ => rfl) rfl rfl rfl rfl rfl (fun _ h => h) (fun _ => top_ok lk hcd hTB hU hr) (fun _ _ => .inr trivial) (fun _ h => by cases h)
        refine ⟨_, ckSs_ok (callW_mono pg k) fn.body ok ⟨rfl, rfl⟩ (passes_of rfl) hbody, ?_⟩
        refine ⟨start fn es, M, _, rm, start_rs rs, z.2.2, ⟨?_, ?_, ?_, ?_, ?_⟩⟩
        · rintro σ' H' ⟨δ', M', e', rm', rs', q'⟩
          exact wq _ _ (LQ.back (gc := fn.gc) rm ⟨.non, M', e', rm', .non, q'⟩)
        · intro v H' q
          exact wq _ _ (q.back rm)
        · rintro σ' H' ⟨δ', M', e', rm', rs', q'⟩
          exact q'.elim
        · rintro σ' H' ⟨δ', M', e', rm', rs', q'⟩
          exact q'.elim
        · rintro δ' σ' cl dd H' M' e' rm' rs' ⟨ex, rx, q⟩
          exact wx _ _ _ (LX.back (gc := fn.gc) rm ⟨ex, M', e', rm', rx, q⟩)
    · intro fn a f0 cdv hfn hhd2 hpa hb S A outer s H E act v mono hr hact f M Qx Q Qv rm rp hCL wq wx
      rw [callW_lam hfn] at hCL
      have ok := ctx (E := E) (outer := outer) (H := H) (fun d M Qx Q => d = v ∧ act M Qx Q) (hdOf ds m fn d a) S.nd (hr.mono (by omega)) rfl rfl (fun _ => rfl) rfl rfl rfl rfl rfl (fun _ h => by cases h) (fun h => by cases h) (fun _ _ => .inr trivial) (fun a' h V pn xe p1 p2 tk => by cases h; exact hact V pn xe p1 p2 tk)
      have mo : CMono { callW pg k with act := fun d M Qx Q => d = v ∧ act M Qx Q } := ⟨(callW_mono pg k).run, (callW_mono pg k).lam, fun d M Qx Qx' Q Q' h1 h2 z => ⟨z.1, mono M Qx Qx' Q Q' h1 h2 z.2⟩⟩
      refine ⟨_, ckSs_ok mo fn.body ok ⟨rfl, rfl⟩ (passes_of rfl) hb, ?_⟩
      refine ⟨start fn [v], M, _, rm, start_rs (.cons rp .nil), hCL.2 v, ⟨?_, ?_, ?_, ?_, ?_⟩⟩
      · rintro σ' H' ⟨δ', M', e', rm', rs', q'⟩
        exact wq _ _ ⟨.non, M', e', rm', .non, q'⟩
      · intro v H' q
        exact wq _ _ q
      · rintro σ' H' ⟨δ', M', e', rm', rs', q'⟩
        exact q'.elim
      · rintro σ' H' ⟨δ', M', e', rm', rs', q'⟩
        exact q'.elim
      · rintro δ' σ' cl dd H' M' e' rm' rs' ⟨ex, rx, q⟩
        exact wx _ _ _ ⟨ex, M', e', rm', rx, q⟩
end
end Dw
set_option Elab.async false
set_option linter.all false
set_option maxRecDepth 100000
set_option maxHeartbeats 4000000
/-! Dw15: what the head knows of constants and defs; from a program's plain word to the law's call. -/
namespace Dw
open PySem PySem.Spec PyProof.Rows L2

mutual
/-- the value u, as the written part K holds it, stands for d -/
def repB (K : PySem.W.Frag) : D → Value → Bool
  | .non, u => (match u with
    | .none => true
    | _ => false)
  | .bl b, u => (match u with
    | .bool c => b == c
    | _ => false)
  | .int i, u => (match u with
    | .int j _ => i == j
    | _ => false)
  | .str l, u => (match u with
    | .str s _ => s.cps.toList == l && okSB l
    | _ => false)
  | .tup ds, u => (match u with
    | .ref a => (match K.lookup a with
      | some ⟨.type c, _, .seq its _, _⟩ => decide (c = "tuple") && decide (its.size ≤ 16777216) && repBs K ds its.toList
      | _ => false)
    | _ => false)
  | _, _ => false
def repBs (K : PySem.W.Frag) : List D → List Value → Bool
  | [], us => us.isEmpty
  | d :: ds, us => (match us with
    | u :: us => repB K d u && repBs K ds us
    | [] => false)
end
section
variable {K : PySem.W.Frag} {mg : Str → Option Value}
mutual
theorem repB_ok : ∀ {d : D} {u : Value}, repB K d u = true → ∃ v, RelV v u ∧ ∀ H M, Rp ⟨K, mg⟩ H M v d
  | .non, u, h => by
    unfold repB at h
    split at h
    · exact ⟨.non, rfl, fun _ _ => .non⟩
    · cases h
  | .bl b, u, h => by
    unfold repB at h
    split at h
    · obtain rfl := eq_of_beq h
      exact ⟨.bl _, rfl, fun _ _ => .bl _⟩
    · cases h
  | .int i, u, h => by
    unfold repB at h
    split at h
    · obtain rfl := eq_of_beq h
      exact ⟨.int _, ⟨_, rfl⟩, fun _ _ => .int _⟩
    · cases h
  | .str l, u, h => by
    unfold repB at h
    split at h
    · rename_i s tk
      rw [Bool.and_eq_true] at h
      have e : s = mkS l := by
        have := eq_of_beq h.1
        cases s with
        | mk cps => show Str.mk cps = Str.mk l.toArray; rw [← this]
      subst e
      exact ⟨.str _, ⟨_, rfl⟩, fun _ _ => .str _ (okS_by h.2)⟩
    · cases h
  | .tup ds, u, h => by
    unfold repB at h
    split at h
    · split at h
      · rename_i a _ c dd its n sl e
        simp only [Bool.and_eq_true, decide_eq_true_eq] at h
        obtain ⟨⟨h1, h2⟩, h3⟩ := h
        obtain ⟨vs, r, z, rs⟩ := repBs_ok h3
        subst h1
        refine ⟨.ref a, rfl, fun H M => .tup (.inr ⟨_, its, n, e, rfl, rfl, by rw [sizeLine_eq]; exact h2, r⟩) ?_ (rs H M)⟩
        rw [sizeLine_eq, ← (rs H M).length, r.length, Array.length_toList]
        exact h2
      · cases h
    · cases h
  | .lst _, u, h => by cases h
  | .ref _, u, h => by cases h
  | .glo _, u, h => by cases h
  | .scr _, u, h => by cases h
  | .fnv .., u, h => by cases h
theorem repBs_ok : ∀ {ds : List D} {us : List Value}, repBs K ds us = true → ∃ vs, Vals vs us ∧ vs.length = ds.length ∧ ∀ H M, Rps ⟨K, mg⟩ H M vs ds
  | [], us, h => by
    cases us with
    | nil => exact ⟨[], .nil, rfl, fun _ _ => .nil⟩
    | cons u us => cases h
  | d :: ds, us, h => by
    cases us with
    | nil => cases h
    | cons u us =>
      obtain ⟨h1, h2⟩ := Bool.and_eq_true_iff.mp (show (repB K d u && repBs K ds us) = true from h)
      obtain ⟨v, r1, p1⟩ := repB_ok h1
      obtain ⟨vs, r2, z, p2⟩ := repBs_ok h2
      exact ⟨v :: vs, .cons r1 r2, by rw [List.length_cons, z, List.length_cons], fun H M => .cons (p1 H M) (p2 H M)⟩
end
end
/-- the constants, the free names -/
def exB (con : List (Str × D)) (blts : List Str) (K : PySem.W.Frag) : Bool := (con.all fun q => match PySem.W.nsIn K mainGlobals q.1 with
  | some (some u) => repB K q.2 u
  | _ => false) && blts.all fun x => match PySem.W.nsIn K mainGlobals x with
  | some none => true
  | _ => false
section
variable {K : PySem.W.Frag} {mg : Str → Option Value} {h : Heap} {con : List (Str × D)} {blts : List Str}
theorem exB_con (X : K.In h) (G : h.Ns mainGlobals mg) (c : exB con blts K = true) (i : Nat) (q : Str × D) (hq : con[i]? = some q) : ∃ u v, mg q.1 = some u ∧ RelV v u ∧ ∀ H M, Rp ⟨K, mg⟩ H M v q.2 := by
  unfold exB at c
  rw [Bool.and_eq_true] at c
  have c1 := List.all_eq_true.mp c.1 q (List.mem_of_getElem? hq)
  split at c1
  · rename_i u e
    obtain ⟨v, r, p⟩ := repB_ok (mg := mg) c1
    exact ⟨u, v, PySem.W.mg_of X G e, r, p⟩
  · cases c1
theorem exB_blt (X : K.In h) (G : h.Ns mainGlobals mg) (c : exB con blts K = true) (x : Str) (hx : x ∈ blts) : mg x = none := by
  unfold exB at c
  rw [Bool.and_eq_true] at c
  have c1 := List.all_eq_true.mp c.2 x hx
  split at c1
  · rename_i e
    exact PySem.W.mg_none_of X G e
  · cases c1
end
/-! ### own exception classes -/
def classB (K : PySem.W.Frag) (C : Addr) : Bool := match K.lookup C with
  | some ⟨.type t, _, .cls ⟨_, _, .ref C' :: bm, _, _, true, _, _, _, _, false⟩, sl⟩ => decide (t = "type") && decide (C' = C) && PySem.HandSPX.refsVE bm && (match sl.toList with
    | [_, _, _, _, some (.builtin n), _] => decide (n = "ValueError.__new__")
    | _ => false)
  | _ => false
theorem classB_ok {K : PySem.W.Frag} {C : Addr} (h : classB K C = true) : ∃ nm q N bs bm sn sub ab col dd k0 k1 k2 k3 k5, K.lookup C = some (excClassObj nm q C N bs bm true sn sub ab col dd k0 k1 k2 k3 k5 "ValueError.__new__") ∧ PySem.HandSPX.refsVE bm = true := by
  unfold classB at h
  split at h
  · rename_i t dd nm bs C' bm N q sn sub ab col sl e
    simp only [Bool.and_eq_true, decide_eq_true_eq] at h
    obtain ⟨⟨⟨h1, h2⟩, h3⟩, h4⟩ := h
    split at h4
    · rename_i k0 k1 k2 k3 n k5 es
      have h4 := of_decide_eq_true h4
      subst h1 h2 h4
      have esl : sl = #[k0, k1, k2, k3, some (.builtin "ValueError.__new__"), k5] := by
        rw [← Array.toArray_toList (xs := sl), es]
      subst esl
      exact ⟨nm, q, N, bs, bm, sn, sub, ab, col, dd, k0, k1, k2, k3, k5, e, h3⟩
    · cases h4
  · cases h
def bodyB : List Stmt → Bool
  | [.Expr (.Call (.Attribute (.Call (.Name s _) [] [] _) i p3) [.Name a _] [] p5) _, .Assign [.Attribute (.Name se _) f _] (.Name a2 _) _] => s == ("super" : Str) && i == ("__init__" : Str) && a == ("at" : Str) && se == ("self" : Str) && f == ("at" : Str) && a2 == ("at" : Str) && p3.endLine == p5.line
  | _ => false
theorem bodyB_ok {b : List Stmt} (h : bodyB b = true) : ∃ p1 p2 p3 p4 p5 p6 p7 p8 p9 p10, (p3.endLine == p5.line) = true ∧ b = iniBody p1 p2 p3 p4 p5 p6 p7 p8 p9 p10 := by
  unfold bodyB at h
  split at h
  · simp only [Bool.and_eq_true] at h
    obtain ⟨⟨⟨⟨⟨⟨h1, h2⟩, h3⟩, h4⟩, h5⟩, h6⟩, h7⟩ := h
    obtain rfl := eq_of_beq h1
    obtain rfl := eq_of_beq h2
    obtain rfl := eq_of_beq h3
    obtain rfl := eq_of_beq h4
    obtain rfl := eq_of_beq h5
    obtain rfl := eq_of_beq h6
    exact ⟨_, _, _, _, _, _, _, _, _, _, h7, rfl⟩
  · cases h
def fileB (P : Program) (K : PySem.W.Frag) (c : Addr) : Bool := match K.lookup c with
  | some ⟨_, _, .fields vs, _⟩ => (match (vs : Array Value)[2]? with
    | some (Value.str file _) => P.main.file == file
    | _ => false)
  | _ => false
theorem fileB_ok {P : Program} {K : PySem.W.Frag} {c : Addr} (h : fileB P K c = true) : ∃ oc vs file tf, K.lookup c = some oc ∧ oc.data = .fields vs ∧ vs[2]? = some (.str file tf) ∧ (P.main.file == file) = true := by
  unfold fileB at h
  split at h
  · rename_i e
    split at h
    · rename_i e2
      exact ⟨_, _, _, _, e, rfl, e2, h⟩
    · cases h
  · cases h
def cellB (K : PySem.W.Frag) (cc C : Addr) : Bool := match K.lookup cc with
  | some ⟨_, _, .cell (some (.ref D)), _⟩ => decide (D = C)
  | _ => false
theorem cellB_ok {K : PySem.W.Frag} {cc C : Addr} (h : cellB K cc C = true) : ∃ o, K.lookup cc = some o ∧ o.data = .cell (some (.ref C)) := by
  unfold cellB at h
  split at h
  · rename_i e
    obtain rfl := of_decide_eq_true h
    exact ⟨_, e, rfl⟩
  · cases h
def funB (P : Program) (K : PySem.W.Frag) (C f : Addr) : Bool := match K.lookup f with
  | some ⟨_, _, .func ⟨_, q, ⟨[], [a1, a2], none, [], [], none, []⟩, .stmts body, sc, gl, [(cn, cc)], .none, .none, _, _, none, .ref c, _, bu⟩, _⟩ =>
    decide (gl = mainGlobals) && decide (bu = builtinsNs) && cn == ("__class__" : Str) && a1.arg == ("self" : Str) && a2.arg == ("at" : Str) && PySem.W.codeIn K (.ref c) q && cellB K cc C && fileB P K c && bodyB body &&
      NdefX.nscB (["self", "at", "__class__"] : List Str) (["self", "at"] : List Str) (["__class__"] : List Str) sc && decide (sc.names.lookup ("super" : Str) = some .globalImplicit)
  | _ => false
theorem funB_ok {P : Program} {K : PySem.W.Frag} {C f : Addr} (h : funB P K C f = true) : ∃ (F : NdefX.NF) (oc : Value) (od : Option Addr) (doc pm ctv : Value) (sl : Array (Option Value)), K.lookup f = some ⟨oc, od, .func (F.fd doc pm ctv), sl⟩ ∧ PySem.W.codeIn K (.ref F.c) F.qual = true ∧
    (∃ cc o, F.cl = [(("__class__" : Str), cc)] ∧ K.lookup cc = some o ∧ o.data = .cell (some (.ref C))) ∧ (∃ oc vs file tf, K.lookup F.c = some oc ∧ oc.data = .fields vs ∧ vs[2]? = some (.str file tf) ∧ (P.main.file == file) = true) ∧
    (∃ p1 p2 p3 p4 p5 p6 p7 p8 p9 p10, (p3.endLine == p5.line) = true ∧ F.body = iniBody p1 p2 p3 p4 p5 p6 p7 p8 p9 p10) ∧ NdefX.NScope (["self", "at", "__class__"] : List Str) (["self", "at"] : List Str) (["__class__"] : List Str) F.scope ∧ F.scope.names.lookup ("super" : Str) = some .globalImplicit ∧
    (∃ ar, (F.params.posonlyargs ++ F.params.args).head? = some ar ∧ ar.arg = "self") ∧ (∀ us : List Value, us.length = 2 → bindArgs (F.fd doc pm ctv) ⟨us, []⟩ = pure ((["self", "at"] : List Str).zip us)) := by
  unfold funB at h
  split at h
  · rename_i oc od nm q a1 a2 body sc gl cn cc doc pm c ctv bu sl e
    simp only [Bool.and_eq_true, decide_eq_true_eq] at h
    obtain ⟨⟨⟨⟨⟨⟨⟨⟨⟨⟨h1, h2⟩, h3⟩, h4⟩, h5⟩, h6⟩, h7⟩, h8⟩, h9⟩, h10⟩, h11⟩ := h
    obtain rfl := eq_of_beq h3
    subst h1 h2
    have e4 := eq_of_beq h4
    have e5 := eq_of_beq h5
    refine ⟨⟨nm, q, ⟨[], [a1, a2], none, [], [], none, []⟩, body, sc, [(("__class__" : Str), cc)], c⟩, oc, od, doc, pm, ctv, sl, e, h6, ?_, fileB_ok h8, bodyB_ok h9, NdefX.nscope_by h10, h11, ⟨a1, rfl, e4⟩, fun us hl => ?_⟩
    · obtain ⟨o, k1, k2⟩ := cellB_ok h7
      exact ⟨cc, o, rfl, k1, k2⟩
    · match us, hl with
      | [u1, u2], _ =>
        obtain ⟨x1, y1, z1⟩ := a1
        obtain ⟨x2, y2, z2⟩ := a2
        have e4 : x1 = ("self" : Str) := e4
        have e5 : x2 = ("at" : Str) := e5
        subst e4 e5
        rfl
  · cases h
end Dw
set_option Elab.async false
set_option linter.all false
set_option maxRecDepth 100000
set_option maxHeartbeats 4000000
/-! Dw16: what the head looks at; the law's own promise. -/
namespace Dw
open PySem PySem.Spec PyProof.Rows L2

/-- an own exception class with such a def -/
def excB (P : Program) (K : PySem.W.Frag) (x : Str) : Bool :=
  (He.Fa.glo x).ok K && (He.Fa.free "super").ok K && classB K (He.ga K x) && funB P K (He.ga K x) (He.ma K (He.ga K x) "__init__") && xfB K (He.ga K x) && PySem.W.keepIn K (.ref (He.ga K x)) &&
  decide (PySem.W.findIn K (.ref (He.ga K x)) "__setattr__" = some (some (.builtin "object.__setattr__"))) && decide (PySem.W.subIn K (.ref (He.ga K x)) (.type "BaseException") = some true) && decide (PySem.W.typeIn K (.ref (He.ga K x)) = some (.type "type")) &&
  decide (PySem.W.ks_superIn K (He.ga K x) (He.ga K x) "__init__" = some (some (.builtin "ValueError.__init__"))) && decide (PySem.W.subIn K (.ref (He.ga K x)) (.ref (He.ga K x)) = some true) && decide (PySem.W.subIn K (.ref (He.ga K x)) (.type "ValueError") = some true) &&
  decide (PySem.W.nsIn K cStatics "thirdparty.any" = some none) && decide (PySem.W.findIn K (.ref (He.ga K x)) "at" = some none) && decide (PySem.W.findIn K (.ref (He.ga K x)) "__init__" = some (some (.ref (He.ma K (He.ga K x) "__init__")))) &&
  decide (PySem.W.typeIn K (.ref (He.ma K (He.ga K x) "__init__")) = some (.type "function")) && !(P.main.scope.names.lookup ("super" : Str)).isSome
theorem excB_ok {P : Program} {K : PySem.W.Frag} {mg : Str → Option Value} {h : Heap} {x : Str} (X : K.In h) (G : h.Ns mainGlobals mg) (c : excB P K x = true) : ExcOk P K mg x := by
  unfold excB at c
  simp only [Bool.and_eq_true, decide_eq_true_eq, Bool.not_eq_true'] at c
  obtain ⟨⟨⟨⟨⟨⟨⟨⟨⟨⟨⟨⟨⟨⟨⟨⟨c1, c2⟩, c3⟩, c4⟩, c5⟩, c6⟩, c7⟩, c8⟩, c9⟩, c10⟩, c11⟩, c12⟩, c13⟩, c14⟩, c15⟩, c16⟩, c17⟩ := c
  obtain ⟨F, oc, od, doc, pm, ctv, sl, k1, k2, k3, k4, k5, k6, k7, k8, k9⟩ := funB_ok c4
  refine ⟨He.ga K x, _, F, oc, od, doc, pm, ctv, sl, He.glo_ok X G c1, ?_, k1, c15, c16, k9, xfB_ok c5⟩
  obtain ⟨cc, o, e1, e2, e3⟩ := k3
  exact { oex := ⟨classB_ok c3, c7, c8, c9, c6⟩, lk := ⟨oc, od, doc, pm, ctv, sl, k1⟩, code := k2, cl := ⟨cc, o, e1, e2, e3⟩, file := k4, top := c17, sup := c10, sub := c11, ve := c12, opq := c13, noat := c14, body := k5, sc := k6, ks := k7, par := k8, mgs := He.free_ok X G c2 }
def exmB (K : PySem.W.Frag) (q : Str × Str × Bool) : Bool := (He.Fa.glo q.1).ok K && (He.Fa.glo q.2.1).ok K && decide (PySem.W.exmOne K (.ref (He.ga K q.1)) (.ref (He.ga K q.2.1)) = some q.2.2)
/-- all that the head looks at beyond the defs -/
def moB (P : Program) (m : Mo) (K : PySem.W.Frag) : Bool := exB m.con m.blts K && m.excs.all (excB P K) && m.exm.all (exmB K) && tabU K
/-! ### the Hook -/
def asW (g : Addr → Option Obj) (n : Nat) : List Addr := cStatics :: He.asD g n
/-- each def's table of code objects is there and empty -/
def tabB (g : Addr → Option Obj) (K : PySem.W.Frag) : Bool := (csK K).all fun p => PySem.W.codeHdIn K p.1 p.2 && (match g p.2 with
  | some o => He.emptyTab o
  | none => false)
theorem tabB_ok {g : Addr → Option Obj} {K : PySem.W.Frag} (h : tabB g K = true) : ∀ p ∈ csK K, PySem.W.codeHdIn K p.1 p.2 = true ∧ ∃ o, g p.2 = some o ∧ He.emptyTab o = true := fun p hp => by
  unfold tabB at h
  obtain ⟨h1, h2⟩ := Bool.and_eq_true_iff.mp (List.all_eq_true.mp h p hp)
  split at h2
  · rename_i o e
    exact ⟨h1, o, e, h2⟩
  · cases h2
def obsW (n : Nat) (P : Program) (m : Mo) (fa : List He.Fa) (fn : List He.DefD) (g : Addr → Option Obj) : He.AlD × Bool := (He.obsD fa fn (He.frT g (asW g n)), moB P m (He.frT g (asW g n)) && tabB g (He.frT g (asW g n)))
/-- what the head says at the heap h -/
structure SaysW (P : Program) (m : Mo) (fa : List He.Fa) (fn : List He.DefD) (h : Heap) (K : PySem.W.Frag) : Prop where
  d : He.SaysD fa fn K
  m : moB P m K = true
  hd : ∀ p ∈ csK K, PySem.W.codeHdIn K p.1 p.2 = true
  out : ∀ p ∈ csK K, K.lookup p.2 = none
  empty : ∀ p ∈ csK K, h.get? p.2 = some { cls := .none, data := .fields #[] }
def hookW (n : Nat) (P : Program) (m : Mo) (fa : List He.Fa) (fn : List He.DefD) : PySem.W.Hook where
  α := He.AlD × Bool
  obs := fun s => obsW n P m fa fn s.heap.get?
  val := fun _ => (He.valD fn, true)
  says := fun _ h => ∃ K : PySem.W.Frag, K.In h ∧ SaysW P m fa fn h K
  of := fun _ h e => by
    obtain ⟨h1, h2⟩ := Bool.and_eq_true_iff.mp (congrArg Prod.snd e)
    have T := tabB_ok h2
    refine ⟨_, He.frT_in, ⟨congrArg Prod.fst e, h1, fun p hp => (T p hp).1, fun p hp => ?_, fun p hp => ?_⟩⟩
    · obtain ⟨_, o, q, z⟩ := T p hp
      exact He.frT_none q z
    · obtain ⟨_, o, q, z⟩ := T p hp
      rw [q, He.emptyTab_eq z]
  keeps := fun _ _ _ ⟨K, hK, c⟩ k => ⟨K, PySem.W.Frag.In.keeps hK k, ⟨c.d, c.m, c.hd, c.out, fun p hp => k _ _ (c.empty p hp)⟩⟩
theorem obsW_eq {n : Nat} {P : Program} {m : Mo} {fa : List He.Fa} {fn : List He.DefD} {g : Addr → Option Obj} {s : Shared} (h : ∀ a, g a = s.heap.get? a) : obsW n P m fa fn g = (hookW n P m fa fn).obs s := by
  have e : g = s.heap.get? := funext h
  rw [e]
  rfl
/-- a def's arguments find their places -/
structure BindOk (d : DefS) : Prop where
  pos : ∀ (kV doc pm : Value) (an : Option Addr) (cdv ct : Value) (us : List Value), us.length = d.ps.length → bindArgs (PySem.W.fnOf d.name d.name d.args d.body d.scope .none kV doc pm an cdv ct) ⟨us, []⟩ = pure (d.ps.zip us)
  kw : ∀ j ∈ d.js, ∀ (kV doc pm : Value) (an : Option Addr) (cdv ct : Value) (us ws : List Value), us.length = j → us.length + ws.length = d.ps.length →
    bindArgs (PySem.W.fnOf d.name d.name d.args d.body d.scope .none kV doc pm an cdv ct) ⟨us, (d.ps.drop j).zip ws⟩ = pure (d.ps.zip (us ++ ws))
def DefS.he (d : DefS) : He.DefD := ⟨(d.name, none), d.name, d.name, d.args, d.body, d.scope, [], []⟩
def faOf (ds : List DefS) : List He.Fa := ds.map fun d => .glo d.name
section
variable {K : PySem.W.Frag} {mg : Str → Option Value} {h : Heap} {ds : List DefS} {w : World} {con : List (Str × D)} {blts : List Str}
theorem info_of (X : K.In h) (G : h.Ns mainGlobals mg) (c : He.SaysD (faOf ds) (ds.map DefS.he) K) (hb : ∀ (i : Nat) (d : DefS), ds[i]? = some d → BindOk d) (i : Nat) (d : DefS) (hd : ds[i]? = some d) : ∃ fd, DefInfo K mg d (He.ga K d.name) fd := by
  obtain ⟨fd, F⟩ := c.def_ i (d := d.he) (by rw [List.getElem?_map, hd]; rfl)
  have e := He.glo_ok X G (c.fact i (f := .glo d.name) (by unfold faOf; rw [List.getElem?_map, hd]; rfl))
  have B := hb i d hd
  refine ⟨fd, ⟨e, F, F.bindsN fun kV doc pm an cdv ct us hl => B.pos kV doc pm an cdv ct us hl, fun j hj us ws h1 h2 => ?_⟩⟩
  obtain ⟨oc, od, dV, kV, doc, pm, an, cdv, ct, osl, rfl, lk, hcd, hD, hK⟩ := F.ex
  rcases hD with ⟨_, rfl⟩ | ⟨e, _⟩
  · exact B.kw j hj kV doc pm an cdv ct us ws h1 h2
  · exact absurd rfl e
/-- the law's argument: a list that nobody writes, or one that lies free -/
def ScrOk (x : D) (M : DM) (ns : List Int) : Prop := (x = .scr (ns.map D.int) ∧ M = fun _ => none) ∨ ∃ a, x = .ref a ∧ M = updM (fun _ => none) a (.lst (ns.map D.int))
theorem rps_ns {G : Gm} {H : Hp} {M : DM} : ∀ l : List Int, Rps G H M (l.map V.int) (l.map D.int)
  | [] => .nil
  | n :: l => .cons (.int n) (rps_ns l)
/-- the law's own promise, from its plain word -/
theorem law_sp {pg : Pg} {k i : Nat} (hw : ∀ ns : List Int, ns.length ≤ 16777216 → ∀ x M, ScrOk x M ns → (callW pg k).run i [x] M (fun _ _ => False) (fun d _ => d = .bl true)) (H : Hp) (a : Addr) (ns : List Int) (hl : ns.length ≤ sizeLine) (hT : ∀ p ∈ csK K, H p.2 = some (.tbl #[]))
    (hS : SqL K H a (ns.map V.int)) : spD ⟨K, mg⟩ ((callW pg k).run i) [.ref a] H (fun v _ => v = .bl true) fun _ _ _ => False := by
  have fin : ∀ (x : D) (M : DM), ScrOk x M ns → RM (⟨K, mg⟩ : Gm) H M → Rp (⟨K, mg⟩ : Gm) H M (.ref a) x → spD ⟨K, mg⟩ ((callW pg k).run i) [.ref a] H (fun v _ => v = .bl true) fun _ _ _ => False := fun x M so rm rp => by
    refine ⟨M, [x], _, _, rm, .cons rp .nil, hw ns (by rw [← sizeLine_eq]; exact hl) x M so, ?_, ?_⟩
    · rintro v H' ⟨d, M', e, r, p, rfl⟩
      exact p.inv_bl
    · rintro c d H' ⟨_, _, _, _, _, z⟩
      exact z.elim
  have len : (ns.map D.int).length ≤ sizeLine := by rw [List.length_map]; exact hl
  rcases hS with (hS | ⟨o, hS⟩) | hS
  · refine fin (.ref a) _ (.inr ⟨a, rfl, rfl⟩) ⟨fun b mo h => ?_, tabs_start hT⟩ (.ref updM_same)
    by_cases hb : b = a
    · subst hb
      rw [updM_same] at h
      cases h
      exact ⟨_, hS, rps_ns ns⟩
    · rw [updM_ne hb] at h
      cases h
  · exact fin _ _ (.inl ⟨rfl, rfl⟩) ⟨fun b mo h => (by cases h), tabs_start hT⟩ (.scr (.inl ⟨o, hS⟩) len (rps_ns ns))
  · exact fin _ _ (.inl ⟨rfl, rfl⟩) ⟨fun b mo h => (by cases h), tabs_start hT⟩ (.scr (.inr hS) len (rps_ns ns))
/-- from the looks to the law's promise: F of walk_ofTsE -/
theorem law_of {l : PySem.W.OpenLaw} {w : World} {m : Mo} {pg : Pg} {ds : List DefS} {h : Heap} {mg : Str → Option Value} {fa : Addr} {i k : Nat} {d : DefS} {x : Str} (hck : ckPg ds m pg ds = true) (hhd : ckHds m pg = true) (hb : ∀ (i : Nat) (d : DefS), ds[i]? = some d → BindOk d)
    (hY : ∃ K : PySem.W.Frag, K.In h ∧ SaysW l.prog m (faOf ds) (ds.map DefS.he) h K) (G : h.Ns mainGlobals mg) (hd : ds[i]? = some d) (hps : d.ps = [x]) (hmg : mg d.name = some (.ref fa))
    (hw : ∀ ns : List Int, ns.length ≤ 16777216 → ∀ x M, ScrOk x M ns → (callW pg k).run i [x] M (fun _ _ => False) (fun d _ => d = .bl true)) (n : Nat) (hn : n ≤ sizeLine) :
    ∃ K : PySem.W.Frag, K.In h ∧ LamX.LawAtS l w K (L2.CX l.prog w) (3 * k + 2) n x mg fa h := by
  obtain ⟨K, KX, c⟩ := hY
  have mo := c.m
  unfold moB at mo
  simp only [Bool.and_eq_true, List.all_eq_true] at mo
  obtain ⟨⟨⟨m1, m2⟩, m3⟩, m4⟩ := mo
  obtain ⟨fd, I⟩ := info_of KX G c.d hb i d hd
  have efa : He.ga K d.name = fa := by
    have := I.mg.symm.trans hmg
    cases this
    rfl
  subst efa
  have B := hb i d hd
  refine ⟨K, KX, fd, csK K, spD ⟨K, mg⟩ ((callW pg k).run i), c.empty, c.out, fun p hp => PySem.W.codeHd_of_K KX (c.hd p hp), fun s u => ?_, fun H a ns hl _ hT hS => law_sp hw H a ns (Nat.le_trans hl hn) hT hS, fun base hK hN hTB => ?_⟩
  · have b := I.fun_.bindsA (ps := d.ps) (fun kV doc pm an cdv ct us hl => B.pos kV doc pm an cdv ct us hl) s [u] (by rw [hps]; rfl)
    rw [hps] at b
    exact b
  · rw [← hps]
    refine (fn_lvl hck hhd (fun i q hq => exB_con KX G m1 i q hq) (fun x hx => exB_blt KX G m1 x hx) (fun x hx => excB_ok KX G (m2 x hx)) (fun q hq => ?_) hTB m4 (fun j d2 h2 => ?_) k).1 i d _ fd hd I
    · have hq := m3 q hq
      unfold exmB at hq
      simp only [Bool.and_eq_true, decide_eq_true_eq] at hq
      exact ⟨_, _, He.glo_ok KX G hq.1.1, He.glo_ok KX G hq.1.2, hq.2⟩
    · obtain ⟨fd2, I2⟩ := info_of KX G c.d hb j d2 h2
      exact ⟨_, fd2, I2⟩
end
end Dw
set_option Elab.async false
set_option linter.all false
set_option maxRecDepth 100000
/-! DwL0: printed by mklib.py: the defs that the laws share. -/
namespace LL
open PySem PySem.Spec PyProof.Rows L2 Dw
def w_pair : List Nat := [112, 97, 105, 114]
def w_list : List Nat := [108, 105, 115, 116]
def w_fun : List Nat := [102, 117, 110]
def w_own : List Nat := [111, 119, 110]
def w_var : List Nat := [118, 97, 114]
def w__5 : List Nat := [32]
def w__9 : List Nat := []
def w_r : List Nat := [114]
def w__15 : List Nat := [112, 105, 101, 99, 101, 32, 110, 101, 101, 100, 115, 32, 101, 102, 102, 101, 99, 116, 32, 111, 119, 110, 32, 108, 101, 116, 32, 114, 101, 99, 32, 105, 110, 32, 115, 104, 111, 119, 32, 102, 117, 110, 32, 105, 102, 32, 116, 104, 101, 110, 32, 101, 108, 115, 101, 32, 99, 97, 115, 101, 32, 111, 102, 32, 110, 111, 110, 101, 32, 112, 117, 116, 32, 100, 111, 32, 99, 97, 116, 99, 104, 32, 119, 105, 116, 104, 32, 115, 101, 97, 108, 32, 111, 112, 101, 110, 32, 102, 105, 114, 115, 116, 32, 115, 101, 99, 111, 110, 100, 32, 116, 114, 117, 101, 32, 102, 97, 108, 115, 101, 32, 117, 110, 105, 116, 32, 105, 110, 116, 32, 116, 114, 117, 116, 104, 32, 112, 97, 105, 114, 32, 108, 105, 115, 116, 32, 97, 100, 100, 32, 115, 117, 98, 32, 109, 117, 108, 32, 108, 101, 115, 115, 32, 115, 97, 109, 101, 32, 110, 111, 116, 32, 101, 110, 100]
def w_piece : List Nat := [112, 105, 101, 99, 101]
def w_needs : List Nat := [110, 101, 101, 100, 115]
def w_effect : List Nat := [101, 102, 102, 101, 99, 116]
def w_let : List Nat := [108, 101, 116]
def w_rec : List Nat := [114, 101, 99]
def w_in : List Nat := [105, 110]
def w_show : List Nat := [115, 104, 111, 119]
def w_if : List Nat := [105, 102]
def w_then : List Nat := [116, 104, 101, 110]
def w_else : List Nat := [101, 108, 115, 101]
def w_case : List Nat := [99, 97, 115, 101]
def w_of : List Nat := [111, 102]
def w_none : List Nat := [110, 111, 110, 101]
def w_put : List Nat := [112, 117, 116]
def w_do : List Nat := [100, 111]
def w_catch : List Nat := [99, 97, 116, 99, 104]
def w_with : List Nat := [119, 105, 116, 104]
def w_seal : List Nat := [115, 101, 97, 108]
def w_open : List Nat := [111, 112, 101, 110]
def w_first : List Nat := [102, 105, 114, 115, 116]
def w_second : List Nat := [115, 101, 99, 111, 110, 100]
def w_true : List Nat := [116, 114, 117, 101]
def w_false : List Nat := [102, 97, 108, 115, 101]
def w_unit : List Nat := [117, 110, 105, 116]
def w_int : List Nat := [105, 110, 116]
def w_truth : List Nat := [116, 114, 117, 116, 104]
def w_add : List Nat := [97, 100, 100]
def w_sub : List Nat := [115, 117, 98]
def w_mul : List Nat := [109, 117, 108]
def w_less : List Nat := [108, 101, 115, 115]
def w_same : List Nat := [115, 97, 109, 101]
def w_not : List Nat := [110, 111, 116]
def w_end : List Nat := [101, 110, 100]
def w__49 : List Nat := [97, 98, 99, 100, 101, 102, 103, 104, 105, 106, 107, 108, 109, 110, 111, 112, 113, 114, 115, 116, 117, 118, 119, 120, 121, 122]
def w__50 : List Nat := [97, 98, 99, 100, 101, 102, 103, 104, 105, 106, 107, 108, 109, 110, 111, 112, 113, 114, 115, 116, 117, 118, 119, 120, 121, 122, 48, 49, 50, 51, 52, 53, 54, 55, 56, 57]
def w_p : List Nat := [112]
def w_q : List Nat := [113]
def w_ask : List Nat := [97, 115, 107]
def w_tell : List Nat := [116, 101, 108, 108]
def w_box : List Nat := [98, 111, 120]
def w_main : List Nat := [109, 97, 105, 110]
def w_x1 : List Nat := [120, 49]
def w_zz : List Nat := [122, 122]
def w_0123456789 : List Nat := [48, 49, 50, 51, 52, 53, 54, 55, 56, 57]
def w_a : List Nat := [97]
def w_k : List Nat := [107]
def w_z : List Nat := [122]
def w_0 : List Nat := [48]
def c_MOST_SIGNS : D := .int 12
def c_WORDS : D := .tup [(.str w_piece), (.str w_needs), (.str w_effect), (.str w_own), (.str w_let), (.str w_rec), (.str w_in), (.str w_show), (.str w_fun), (.str w_if), (.str w_then), (.str w_else), (.str w_case), (.str w_of), (.str w_none), (.str w_put), (.str w_do), (.str w_catch), (.str w_with), (.str w_seal), (.str w_open), (.str w_first), (.str w_second), (.str w_true), (.str w_false), (.str w_unit), (.str w_int), (.str w_truth), (.str w_pair), (.str w_list), (.str w_add), (.str w_sub), (.str w_mul), (.str w_less), (.str w_same), (.str w_not), (.str w_end)]
def c_LETTERS : D := .str w__49
def c_DIGITS : D := .str w_0123456789
def c_MOST_PARTS : D := .int 2000
def c_MOST_VARIABLES : D := .int 60
def c_PLAIN : D := .tup [(.str w_int), (.str w_truth), (.str w_unit)]
def c_MOST_DEEP : D := .int 24
def f_is_name : Fn := { name := "is_name", N := ["value", "sign"], ps := 1, gc := false, hd := false, body := [(.iff (.or (.not (.isi (.var 0) [.str])) (.or (.not (.cmp2 .le .le (.lit (.int 1)) (.blt .len [(.var 0)]) (.glo "MOST_SIGNS" c_MOST_SIGNS))) (.cmp .isin (.var 0) (.glo "WORDS" c_WORDS)))) [(.ret (.lit (.bl false)))] []), (.ret (.and (.cmp .isin (.idx (.var 0) (.lit (.int 0))) (.glo "LETTERS" c_LETTERS)) (.blt .all [(.lc false (.or (.cmp .isin (.var 1) (.glo "LETTERS" c_LETTERS)) (.cmp .isin (.var 1) (.glo "DIGITS" c_DIGITS))) [1] (.var 1) (.seq (.var 0)) [])])))] }
def f_is_label (i_is_name : Nat) : Fn := { name := "is_label", N := ["value"], ps := 1, gc := false, hd := false, body := [(.ret (.and (.isi (.var 0) [.tuple]) (.and (.cmp .eq (.blt .len [(.var 0)]) (.lit (.int 2))) (.and (.call i_is_name [(.idx (.var 0) (.lit (.int 0)))]) (.call i_is_name [(.idx (.var 0) (.lit (.int 1)))])))))] }
def f_is_integer : Fn := { name := "is_integer", N := ["value"], ps := 1, gc := false, hd := false, body := [(.ret (.and (.isi (.var 0) [.int]) (.not (.isi (.var 0) [.bool]))))] }
def f_is_index (i_is_integer : Nat) : Fn := { name := "is_index", N := ["value", "many"], ps := 2, gc := false, hd := false, body := [(.ret (.and (.call i_is_integer [(.var 0)]) (.cmp2 .le .lt (.lit (.int 0)) (.var 0) (.var 1))))] }
def f_is_row (i_is_label : Nat) (i_is_index : Nat) : Fn := { name := "is_row", N := ["value", "one", "other"], ps := 1, gc := false, hd := false, body := [(.iff (.or (.not (.isi (.var 0) [.tuple])) (.or (.cmp .ne (.blt .len [(.var 0)]) (.lit (.int 2))) (.not (.isi (.idx (.var 0) (.lit (.int 0))) [.tuple])))) [(.ret (.lit (.bl false)))] []), (.iff (.or (.not (.blt .all [(.lc false (.call i_is_label [(.var 1)]) [1] (.var 1) (.seq (.idx (.var 0) (.lit (.int 0)))) [])])) (.cmp .gt (.blt .len [(.idx (.var 0) (.lit (.int 0)))]) (.glo "MOST_PARTS" c_MOST_PARTS))) [(.ret (.lit (.bl false)))] []), (.iff (.not (.blt .all [(.lc false (.cmp .lt (.var 1) (.var 2)) [1, 2] (.tup [(.var 1), (.var 2)]) (.zip (.idx (.var 0) (.lit (.int 0))) (.slc (.idx (.var 0) (.lit (.int 0))) (.some (.lit (.int 1))) .none)) [])])) [(.ret (.lit (.bl false)))] []), (.ret (.or (.cmp .is (.idx (.var 0) (.lit (.int 1))) (.lit .non)) (.call i_is_index [(.idx (.var 0) (.lit (.int 1))), (.glo "MOST_VARIABLES" c_MOST_VARIABLES)])))] }
def f_inner_types (i_is_row : Nat) (i_is_name : Nat) (i_is_index : Nat) : Fn := { name := "inner_types", N := ["value", "word", "size"], ps := 1, gc := false, hd := false, body := [(.iff (.or (.not (.isi (.var 0) [.tuple])) (.or (.cmp .eq (.var 0) (.tup [])) (.not (.isi (.idx (.var 0) (.lit (.int 0))) [.str])))) [(.ret (.tup [(.tup []), (.lit (.bl false))]))] []), (.par [1, 2] [(.idx (.var 0) (.lit (.int 0))), (.blt .len [(.var 0)])]), (.iff (.cmp .isin (.var 1) (.glo "PLAIN" c_PLAIN)) [(.ret (.tup [(.tup []), (.cmp .eq (.var 2) (.lit (.int 1)))]))] []), (.iff (.cmp .eq (.var 1) (.lit (.str w_pair))) [(.ret (.tup [(.slc (.var 0) (.some (.lit (.int 1))) .none), (.cmp .eq (.var 2) (.lit (.int 3)))]))] []), (.iff (.cmp .eq (.var 1) (.lit (.str w_list))) [(.ret (.tup [(.slc (.var 0) (.some (.lit (.int 1))) .none), (.cmp .eq (.var 2) (.lit (.int 2)))]))] []), (.iff (.cmp .eq (.var 1) (.lit (.str w_fun))) [(.ret (.tup [(.ife (.cmp .eq (.var 2) (.lit (.int 4))) (.tup [(.idx (.var 0) (.lit (.int 1))), (.idx (.var 0) (.lit (.int 3)))]) (.tup [])), (.and (.cmp .eq (.var 2) (.lit (.int 4))) (.call i_is_row [(.idx (.var 0) (.lit (.int 2)))]))]))] []), (.iff (.cmp .eq (.var 1) (.lit (.str w_own))) [(.ret (.tup [(.tup []), (.and (.cmp .eq (.var 2) (.lit (.int 3))) (.and (.call i_is_name [(.idx (.var 0) (.lit (.int 1)))]) (.call i_is_name [(.idx (.var 0) (.lit (.int 2)))])))]))] []), (.ret (.tup [(.tup []), (.and (.cmp .eq (.var 1) (.lit (.str w_var))) (.and (.cmp .eq (.var 2) (.lit (.int 2))) (.call i_is_index [(.idx (.var 0) (.lit (.int 1))), (.glo "MOST_VARIABLES" c_MOST_VARIABLES)])))]))] }
def f_is_type (i_inner_types : Nat) : Fn := { name := "is_type", N := ["value", "waiting", "parts", "one", "deep", "inner", "right", "part"], ps := 1, gc := true, hd := false, body := [(.par [1, 2] [(.lst true [(.tup [(.var 0), (.lit (.int 1))])]), (.lit (.int 0))]), (.whl (.cmp .ne (.var 1) (.lst false [])) [(.setT (.tup [(.var 3), (.var 4)]) (.mth .pop (.var 1) [])), (.setT (.tup [(.var 5), (.var 6)]) (.call i_inner_types [(.var 3)])), (.aug 2 .add (.lit (.int 1))), (.iff (.or (.not (.var 6)) (.or (.cmp .gt (.var 4) (.glo "MOST_DEEP" c_MOST_DEEP)) (.cmp .gt (.var 2) (.glo "MOST_PARTS" c_MOST_PARTS)))) [(.ret (.lit (.bl false)))] []), (.ex (.mth .extend (.var 1) [(.lc false (.tup [(.var 7), (.bin .add (.var 4) (.lit (.int 1)))]) [7] (.var 7) (.seq (.var 5)) [])]))]), (.ret (.lit (.bl true)))] }
def f_checked_type (i_is_type : Nat) : Fn := { name := "checked_type", N := ["value", "at"], ps := 2, gc := false, hd := false, body := [(.iff (.not (.call i_is_type [(.var 0)])) [(.raise "InvalidType" (.var 1))] [])] }
def f_variables : Fn := { name := "variables", N := ["one", "waiting", "types", "rows", "part", "inner"], ps := 1, gc := true, hd := false, body := [(.par [2, 3] [(.lst true []), (.lst true [])]), (.set 1 (.lst true [(.var 0)])), (.whl (.cmp .ne (.var 1) (.lst false [])) [(.set 4 (.mth .pop (.var 1) [])), (.iff (.isi (.idx (.var 4) (.lit (.int 0))) [.tuple]) [(.iff (.and (.cmp .isnot (.idx (.var 4) (.lit (.int 1))) (.lit .non)) (.cmp .notin (.idx (.var 4) (.lit (.int 1))) (.var 3))) [(.ex (.mth .append (.var 3) [(.idx (.var 4) (.lit (.int 1)))]))] [])] [(.iff (.cmp .eq (.idx (.var 4) (.lit (.int 0))) (.lit (.str w_var))) [(.iff (.cmp .notin (.idx (.var 4) (.lit (.int 1))) (.var 2)) [(.ex (.mth .append (.var 2) [(.idx (.var 4) (.lit (.int 1)))]))] [])] [(.ex (.mth .extend (.var 1) [(.lc false (.var 5) [5] (.var 5) (.seq (.stp (.var 4) none (some (0)) (-1))) [(.isi (.var 5) [.tuple])])]))])])]), (.ret (.tup [(.blt .tuple [(.var 2)]), (.blt .tuple [(.var 3)])]))] }
def f_is_closed (i_variables : Nat) : Fn := { name := "is_closed", N := ["one"], ps := 1, gc := false, hd := false, body := [(.ret (.cmp .eq (.call i_variables [(.var 0)]) (.tup [(.tup []), (.tup [])])))] }
def f_drawL : Fn := { name := "_law_draw", N := ["script", "salt", "cells", "blend", "cell"], ps := 2, gc := false, hd := false, body := [(.set 2 (.lc false (.blt .abs [(.blt .int [(.var 4)])]) [4] (.var 4) (.seq (.slc (.var 0) .none (.some (.lit (.int 48))))) [])), (.set 3 (.bin .add (.lit (.int 7919)) (.bin .mul (.lit (.int 104729)) (.var 1)))), (.for_ (.var 4) (.seq (.var 2)) [(.set 3 (.bin .mod (.blt .int [(.bin .add (.bin .add (.bin .mul (.var 3) (.lit (.int 48271))) (.bin .mod (.var 4) (.lit (.int 2147483549)))) (.lit (.int 11)))]) (.lit (.int 2147483647))))]), (.ret (.lst true [(.rev true (.lc false (.var 4) [4] (.var 4) (.seq (.var 2)) [(.cmp .ge (.var 4) (.bin .pow (.lit (.int 10)) (.lit (.int 18))))])), (.var 3)]))] }
def f_anyL : Fn := { name := "_law_any", N := ["deal", "bound", "rest"], ps := 2, gc := false, hd := false, body := [(.whl (.and (.cmp .ne (.idx (.var 0) (.lit (.int 0))) (.lst false [])) (.cmp .eq (.idx (.idx (.var 0) (.lit (.int 0))) (.neg (.lit (.int 1)))) (.lit (.int 0)))) [(.ex (.mth .pop (.idx (.var 0) (.lit (.int 0))) []))]), (.iff (.cmp .ne (.idx (.var 0) (.lit (.int 0))) (.lst false [])) [(.set 2 (.blt .int [(.mth .pop (.idx (.var 0) (.lit (.int 0))) [])])), (.ex (.mth .append (.idx (.var 0) (.lit (.int 0))) [(.bin .fdiv (.var 2) (.var 1))])), (.ret (.bin .mod (.var 2) (.var 1)))] []), (.setI (.var 0) (.lit (.int 1)) (.bin .mod (.blt .int [(.bin .add (.bin .mul (.idx (.var 0) (.lit (.int 1))) (.lit (.int 40693))) (.lit (.int 71)))]) (.lit (.int 2147483647)))), (.ret (.bin .mod (.blt .int [(.bin .fdiv (.idx (.var 0) (.lit (.int 1))) (.lit (.int 64)))]) (.var 1)))] }
def f_ofL (i_anyL : Nat) : Fn := { name := "_law_of", N := ["deal", "some"], ps := 2, gc := false, hd := false, body := [(.ret (.idx (.var 1) (.call i_anyL [(.var 0), (.blt .len [(.var 1)])])))] }
def f_sameL (i_sameL : Nat) : Fn := { name := "_law_same", N := ["value", "due", "one", "other"], ps := 2, gc := false, hd := false, body := [(.iff (.isi (.var 1) [.tuple, .list]) [(.iff (.or (.cmp .ne (.isi (.var 1) [.tuple]) (.isi (.var 0) [.tuple])) (.or (.not (.isi (.var 0) [.tuple, .list])) (.cmp .ne (.blt .len [(.var 0)]) (.blt .len [(.var 1)])))) [(.ret (.lit (.bl false)))] []), (.ret (.cmp .eq (.lc false (.lit (.int 0)) [2, 3] (.tup [(.var 2), (.var 3)]) (.zip (.var 0) (.var 1)) [(.not (.call i_sameL [(.var 2), (.var 3)]))]) (.lst false [])))] []), (.iff (.cmp .is (.var 1) (.lit .non)) [(.ret (.cmp .is (.var 0) (.lit .non)))] []), (.iff (.cmp .is (.var 1) (.lit (.bl true))) [(.ret (.cmp .is (.var 0) (.lit (.bl true))))] []), (.iff (.cmp .is (.var 1) (.lit (.bl false))) [(.ret (.cmp .is (.var 0) (.lit (.bl false))))] []), (.iff (.isi (.var 1) [.int]) [(.ret (.and (.isi (.var 0) [.int]) (.and (.not (.isi (.var 0) [.bool])) (.cmp .eq (.var 0) (.var 1)))))] []), (.ret (.and (.isi (.var 0) [.str]) (.cmp .eq (.var 0) (.var 1))))] }
def f_is_intL : Fn := { name := "_law_is_int", N := ["value"], ps := 1, gc := false, hd := false, body := [(.ret (.and (.isi (.var 0) [.int]) (.not (.isi (.var 0) [.bool]))))] }
def f_is_nameL : Fn := { name := "_law_is_name", N := ["value", "words", "sign"], ps := 1, gc := false, hd := false, body := [(.set 1 (.spl w__15 w__5 [w_piece, w_needs, w_effect, w_own, w_let, w_rec, w_in, w_show, w_fun, w_if, w_then, w_else, w_case, w_of, w_none, w_put, w_do, w_catch, w_with, w_seal, w_open, w_first, w_second, w_true, w_false, w_unit, w_int, w_truth, w_pair, w_list, w_add, w_sub, w_mul, w_less, w_same, w_not, w_end])), (.iff (.or (.not (.isi (.var 0) [.str])) (.or (.not (.cmp2 .le .le (.lit (.int 1)) (.blt .len [(.var 0)]) (.lit (.int 12)))) (.cmp .isin (.var 0) (.var 1)))) [(.ret (.lit (.bl false)))] []), (.ret (.and (.cmp .isin (.idx (.var 0) (.lit (.int 0))) (.lit (.str w__49))) (.cmp .eq (.lc false (.var 2) [2] (.var 2) (.seq (.var 0)) [(.cmp .notin (.var 2) (.lit (.str w__50)))]) (.lst false []))))] }
def f_nameL (i_anyL : Nat) (i_ofL : Nat) (i_is_nameL : Nat) : Fn := { name := "_law_name", N := ["deal", "turn", "found", "letters"], ps := 1, gc := false, hd := false, body := [(.setT (.tup [(.var 3), (.var 2)]) (.tup [(.lit (.str w__49)), (.lit (.str w__9))])), (.iff (.cmp .gt (.call i_anyL [(.var 0), (.lit (.int 3))]) (.lit (.int 0))) [(.ret (.call i_ofL [(.var 0), (.lst false [(.lit (.str w_p)), (.lit (.str w_q)), (.lit (.str w_r)), (.lit (.str w_ask)), (.lit (.str w_tell)), (.lit (.str w_box)), (.lit (.str w_main)), (.lit (.str w_x1)), (.lit (.str w_zz))])]))] []), (.for_ (.var 1) (.rng1 (.call i_ofL [(.var 0), (.lst false [(.lit (.int 1)), (.lit (.int 2)), (.lit (.int 11))])])) [(.set 2 (.bin .add (.var 2) (.idx (.bin .add (.var 3) (.lit (.str w_0123456789))) (.call i_anyL [(.var 0), (.lit (.int 36))]))))]), (.set 2 (.bin .add (.call i_ofL [(.var 0), (.lst false [(.lit (.str w_a)), (.lit (.str w_k)), (.lit (.str w_z))])]) (.var 2))), (.ret (.ife (.call i_is_nameL [(.var 2)]) (.var 2) (.bin .add (.bin .add (.lit (.str w_q)) (.slc (.var 2) .none (.some (.lit (.int 9))))) (.lit (.str w_0)))))] }
def f_labelsL (i_nameL : Nat) (i_anyL : Nat) : Fn := { name := "_law_labels", N := ["deal", "most", "turn"], ps := 2, gc := false, hd := false, body := [(.ret (.blt .tuple [(.sst (.lc false (.tup [(.call i_nameL [(.var 0)]), (.call i_nameL [(.var 0)])]) [2] (.var 2) (.rng1 (.call i_anyL [(.var 0), (.bin .add (.var 1) (.lit (.int 1)))])) []))]))] }
def f_a_rowL (i_labelsL : Nat) (i_anyL : Nat) : Fn := { name := "_law_a_row", N := ["deal", "ends"], ps := 2, gc := false, hd := false, body := [(.ret (.tup [(.call i_labelsL [(.var 0), (.lit (.int 3))]), (.ife (.or (.cmp .eq (.var 1) (.lit (.int 0))) (.cmp .eq (.call i_anyL [(.var 0), (.lit (.int 2))]) (.lit (.int 0)))) (.lit .non) (.call i_anyL [(.var 0), (.var 1)]))]))] }
def f_a_typeL (i_anyL : Nat) (i_ofL : Nat) (i_a_typeL : Nat) (i_a_rowL : Nat) (i_nameL : Nat) : Fn := { name := "_law_a_type", N := ["deal", "deep", "types", "ends", "form"], ps := 4, gc := false, hd := false, body := [(.set 4 (.call i_anyL [(.var 0), (.lit (.int 9))])), (.iff (.or (.cmp .gt (.var 1) (.lit (.int 4))) (.cmp .lt (.var 4) (.lit (.int 2)))) [(.ret (.tup [(.call i_ofL [(.var 0), (.lst false [(.lit (.str w_int)), (.lit (.str w_truth)), (.lit (.str w_unit))])])]))] []), (.iff (.and (.cmp .eq (.var 4) (.lit (.int 2))) (.cmp .gt (.var 2) (.lit (.int 0)))) [(.ret (.tup [(.lit (.str w_var)), (.call i_anyL [(.var 0), (.var 2)])]))] []), (.iff (.cmp .lt (.var 4) (.lit (.int 5))) [(.ret (.tup [(.lit (.str w_fun)), (.call i_a_typeL [(.var 0), (.bin .add (.var 1) (.lit (.int 1))), (.var 2), (.var 3)]), (.call i_a_rowL [(.var 0), (.var 3)]), (.call i_a_typeL [(.var 0), (.bin .add (.var 1) (.lit (.int 1))), (.var 2), (.var 3)])]))] []), (.iff (.cmp .eq (.var 4) (.lit (.int 5))) [(.ret (.tup [(.lit (.str w_pair)), (.call i_a_typeL [(.var 0), (.bin .add (.var 1) (.lit (.int 1))), (.var 2), (.var 3)]), (.call i_a_typeL [(.var 0), (.bin .add (.var 1) (.lit (.int 1))), (.var 2), (.var 3)])]))] []), (.iff (.cmp .eq (.var 4) (.lit (.int 6))) [(.ret (.tup [(.lit (.str w_list)), (.call i_a_typeL [(.var 0), (.bin .add (.var 1) (.lit (.int 1))), (.var 2), (.var 3)])]))] []), (.ret (.ife (.cmp .eq (.var 4) (.lit (.int 7))) (.tup [(.lit (.str w_own)), (.call i_nameL [(.var 0)]), (.call i_nameL [(.var 0)])]) (.ife (.cmp .gt (.var 2) (.lit (.int 0))) (.tup [(.lit (.str w_var)), (.call i_anyL [(.var 0), (.var 2)])]) (.tup [(.lit (.str w_int))]))))] }
def f_varsL (i_varsL : Nat) : Fn := { name := "_law_vars", N := ["one", "found", "part", "more", "near", "far"], ps := 1, gc := false, hd := false, body := [(.iff (.cmp .eq (.idx (.var 0) (.lit (.int 0))) (.lit (.str w_var))) [(.ret (.tup [(.lst false [(.idx (.var 0) (.lit (.int 1)))]), (.lst false [])]))] []), (.iff (.cmp .eq (.idx (.var 0) (.lit (.int 0))) (.lit (.str w_fun))) [(.par [4, 5] [(.call i_varsL [(.idx (.var 0) (.lit (.int 1)))]), (.call i_varsL [(.idx (.var 0) (.lit (.int 3)))])]), (.ret (.tup [(.bin .add (.idx (.var 4) (.lit (.int 0))) (.idx (.var 5) (.lit (.int 0)))), (.bin .add (.bin .add (.idx (.var 4) (.lit (.int 1))) (.ife (.cmp .is (.idx (.idx (.var 0) (.lit (.int 2))) (.lit (.int 1))) (.lit .non)) (.lst false []) (.lst false [(.idx (.idx (.var 0) (.lit (.int 2))) (.lit (.int 1)))]))) (.idx (.var 5) (.lit (.int 1))))]))] []), (.set 1 (.tup [(.lst false []), (.lst false [])])), (.for_ (.var 2) (.seq (.ife (.cmp .isin (.idx (.var 0) (.lit (.int 0))) (.tup [(.lit (.str w_pair)), (.lit (.str w_list))])) (.slc (.var 0) (.some (.lit (.int 1))) .none) (.tup []))) [(.set 3 (.call i_varsL [(.var 2)])), (.set 1 (.tup [(.bin .add (.idx (.var 1) (.lit (.int 0))) (.idx (.var 3) (.lit (.int 0)))), (.bin .add (.idx (.var 1) (.lit (.int 1))) (.idx (.var 3) (.lit (.int 1))))]))]), (.ret (.var 1))] }
/-- where the shared defs stand in a program -/
structure Base (pg : Pg) where
  i_is_name : Nat
  i_is_label : Nat
  i_is_integer : Nat
  i_is_index : Nat
  i_is_row : Nat
  i_inner_types : Nat
  i_is_type : Nat
  i_checked_type : Nat
  i_variables : Nat
  i_is_closed : Nat
  i_drawL : Nat
  i_anyL : Nat
  i_ofL : Nat
  i_sameL : Nat
  i_is_intL : Nat
  i_is_nameL : Nat
  i_nameL : Nat
  i_labelsL : Nat
  i_a_rowL : Nat
  i_a_typeL : Nat
  i_varsL : Nat
  h_is_name : pg[i_is_name]? = some f_is_name
  h_is_label : pg[i_is_label]? = some (f_is_label i_is_name)
  h_is_integer : pg[i_is_integer]? = some f_is_integer
  h_is_index : pg[i_is_index]? = some (f_is_index i_is_integer)
  h_is_row : pg[i_is_row]? = some (f_is_row i_is_label i_is_index)
  h_inner_types : pg[i_inner_types]? = some (f_inner_types i_is_row i_is_name i_is_index)
  h_is_type : pg[i_is_type]? = some (f_is_type i_inner_types)
  h_variables : pg[i_variables]? = some f_variables
  h_is_closed : pg[i_is_closed]? = some (f_is_closed i_variables)
  h_drawL : pg[i_drawL]? = some f_drawL
  h_anyL : pg[i_anyL]? = some f_anyL
  h_ofL : pg[i_ofL]? = some (f_ofL i_anyL)
  h_sameL : pg[i_sameL]? = some (f_sameL i_sameL)
  h_is_nameL : pg[i_is_nameL]? = some f_is_nameL
  h_nameL : pg[i_nameL]? = some (f_nameL i_anyL i_ofL i_is_nameL)
  h_labelsL : pg[i_labelsL]? = some (f_labelsL i_nameL i_anyL)
  h_a_rowL : pg[i_a_rowL]? = some (f_a_rowL i_labelsL i_anyL)
  h_a_typeL : pg[i_a_typeL]? = some (f_a_typeL i_anyL i_ofL i_a_typeL i_a_rowL i_nameL)
  h_varsL : pg[i_varsL]? = some (f_varsL i_varsL)
end LL
set_option Elab.async false
set_option linter.all false
set_option maxRecDepth 100000
set_option maxHeartbeats 4000000
/-! DwL1: what the shared defs do: drawing, comparing. -/
namespace LL
open PySem PySem.Spec PyProof.Rows L2 Dw
/-- the deal: a written list of a written list of cells, and a number -/
def DealAt (M : DM) (d : D) (n : Nat) : Prop := ∃ (a b : Addr) (cs : List Int) (bl : Int), d = .ref a ∧ a ≠ b ∧ M a = some (.lst [.ref b, .int bl]) ∧ M b = some (.lst (cs.map D.int)) ∧ (∀ c ∈ cs, 0 ≤ c) ∧ cs.length = n ∧ n ≤ 48
def Deal (M : DM) (d : D) : Prop := ∃ n, DealAt M d n
theorem eqs_nil (xs : List Int) : eqDs (xs.map D.int) [] = xs.isEmpty := by cases xs <;> rfl
theorem plain_ints (xs : List Int) : plainDs (xs.map D.int) = true := by
  induction xs with
  | nil => rfl
  | cons x xs ih => exact ih
theorem deep_ints (xs : List Int) : deepDs (xs.map D.int) = 0 := by
  induction xs with
  | nil => rfl
  | cons x xs ih => show max 0 _ = 0; rw [ih]; rfl
theorem plain_add (x y : List D) : plainDs (x ++ y) = (plainDs x && plainDs y) := by
  induction x with
  | nil => rfl
  | cons a x ih => show (plainD a && plainDs (x ++ y)) = _; rw [ih, ← Bool.and_assoc]; rfl
theorem ix_last (n : Nat) : ixD (n + 1) (-1) = some n := by
  unfold ixD
  rw [if_neg (by omega), if_pos (by omega)]
  congr 1
  omega
theorem ix_zero (n : Nat) : ixD (n + 1) 0 = some 0 := by
  unfold ixD
  rw [if_pos (by omega), if_pos (by omega)]
  rfl
theorem get_last (x : List D) (d : D) (n : Nat) (h : x.length = n) : (x ++ [d])[n]? = some d := by subst h; simp
theorem any_ok {pg : Pg} (B : Base pg) {k : Nat} {M : DM} {d : D} {n : Int} {Qx : QX} {Q : QD} (hD : Deal M d) (h0 : 0 < n) (h1 : n < 2 ^ 63) (hQ : ∀ i M', 0 ≤ i → i < n → Deal M' d → Q (.int i) M') :
    (callW pg (k + 1)).run B.i_anyL [d, .int n] M Qx Q := by
  rw [callW_run B.h_anyL]
  refine ⟨rfl, rfl, ?_⟩
  show whlW _ _ _ _ _
  refine ⟨fun m δ M => δ = [some d, some (.int n), none] ∧ DealAt M d m, ?_, ?_⟩
  · obtain ⟨m, h⟩ := hD
    exact ⟨m, rfl, h⟩
  · rintro m δ M ⟨rfl, a, b, cs, bl, rfl, hab, ha, hb, hc, hl, hm⟩
    rcases List.eq_nil_or_concat cs with rfl | ⟨ds, c, rfl⟩
    · simp [Dw.wpT, wpE, wpA, wpSs, Dw.wpS, res, lookD, idxR, seqOf, ha, hb, ixD, cmpR, flatR, eqD, eqDs, okEq, plainD, plainDs, deepD, deepDs, ifD, truthD, negR, newL, setR, resM, lstAt, bltR, binR, mulOk, backQ, f_anyL, updM_same]
      have g0 : (0 : Int) ≤ (bl * 40693 + 71) % 2147483647 / 64 % n := Int.emod_nonneg _ (by omega)
      exact ⟨h0, hQ _ _ g0 (Int.emod_lt_of_pos _ h0) ⟨0, a, b, [], _, rfl, hab, updM_same, (updM_ne hab.symm).trans hb, hc, rfl, by omega⟩⟩
    · rw [List.concat_eq_append] at hb hc hl
      rw [List.map_append] at hb
      have hl' : (ds.map D.int).length = ds.length := List.length_map ..
      have hc0 : 0 ≤ c := hc c (by simp)
      have hcd : ∀ x ∈ ds, 0 ≤ x := fun x hx => hc x (by simp [hx])
      rw [List.length_append, List.length_singleton] at hl
      have hk : updM M b (.lst (ds.map D.int)) a = some (.lst [.ref b, .int bl]) := (updM_ne hab).trans ha
      have e0 : eqDs (ds.map D.int ++ [.int c]) [] = false := by cases ds <;> rfl
      have ex : ixD (ds.map D.int ++ [D.int c]).length (-1) = some ds.length := by rw [List.length_append, hl']; exact ix_last _
      have eg : (ds.map D.int ++ [D.int c])[ds.length]? = some (.int c) := get_last _ _ _ hl'
      have sz : ds.length < sizeLine := by unfold sizeLine; omega
      simp only [List.map_cons, List.map_nil] at hb
      simp [Dw.wpT, wpE, wpA, wpSs, Dw.wpS, res, lookD, idxR, seqOf, ha, hb, ix_zero, ex, eg, cmpR, flatR, eqD, e0, okEq, plainD, plainDs, deepD, deepDs, ifD, truthD, negR, newL, setR, resM, lstAt, bltR, binR, backQ, f_anyL, updM_same, mthR, rcvOk, plain_ints, plain_add, hk, -List.length_append]
      cases hz : c == 0 with
      | true => exact ⟨ds.length, by omega, a, b, ds, bl, rfl, hab, hk, updM_same, hcd, rfl, by omega⟩
      | false =>
        refine ⟨⟨h0, by omega⟩, sz, h0, hQ _ _ (Int.emod_nonneg _ (by omega)) (Int.emod_lt_of_pos _ h0) ?_⟩
        refine ⟨m, a, b, ds ++ [c / n], bl, rfl, hab, (updM_ne hab).trans hk, ?_, ?_, ?_, hm⟩
        · rw [updM_same, List.map_append]
          rfl
        · intro x hx
          rcases List.mem_append.mp hx with hx | hx
          · exact hcd x hx
          · rw [List.mem_singleton.mp hx]
            exact Int.ediv_nonneg hc0 (by omega)
        · rw [List.length_append]
          exact hl
/-- one of some -/
theorem of_ok {pg : Pg} (B : Base pg) {k : Nat} {M : DM} {d x : D} {xs : List D} {Qx : QX} {Q : QD} (hD : Deal M d) (hx : x = .tup xs ∨ x = .lst xs) (h0 : 0 < xs.length) (h1 : xs.length < 2 ^ 63) (hQ : ∀ y ∈ xs, ∀ M', Deal M' d → Q y M') :
    (callW pg (k + 2)).run B.i_ofL [d, x] M Qx Q := by
  rw [callW_run B.h_ofL]
  refine ⟨rfl, rfl, ?_⟩
  have key : ∀ R : QD, (∀ i M', 0 ≤ i → i < (xs.length : Int) → Deal M' d → R (.int i) M') → (callW pg (k + 1)).run B.i_anyL [d, .int xs.length] M Qx R := fun R h => any_ok B hD (by omega) (by omega) h
  rcases hx with rfl | rfl <;>
  · simp [wpE, wpA, wpSs, Dw.wpS, res, lookD, bltR, lenOf, f_ofL, backQ, Dw.start]
    refine key _ fun i M' g0 g1 g2 => ?_
    have hl : i.toNat < xs.length := by omega
    simp [idxR, seqOf, ixD, g0, g1, List.getElem?_eq_getElem hl]
    exact hQ _ (List.getElem_mem hl) M' g2
/-- _law_any and _law_of at any level -/
theorem any_at {pg : Pg} (B : Base pg) {j : Nat} {M : DM} {d : D} {n : Int} {Qx : QX} {Q : QD} (hj : 1 ≤ j) (hD : Deal M d) (h0 : 0 < n) (h1 : n < 2 ^ 63) (hQ : ∀ i M', 0 ≤ i → i < n → Deal M' d → Q (.int i) M') : (callW pg j).run B.i_anyL [d, .int n] M Qx Q := by
  obtain ⟨k, rfl⟩ : ∃ k, j = k + 1 := ⟨j - 1, by omega⟩
  exact any_ok B hD h0 h1 hQ
theorem of_at {pg : Pg} (B : Base pg) {j : Nat} {M : DM} {d : D} {xs : List D} {Qx : QX} {Q : QD} (hj : 2 ≤ j) (hD : Deal M d) (h0 : 0 < xs.length) (h1 : xs.length < 2 ^ 63) (hQ : ∀ y ∈ xs, ∀ M', Deal M' d → Q y M') : (callW pg j).run B.i_ofL [d, .lst xs] M Qx Q := by
  obtain ⟨k, rfl⟩ : ∃ k, j = k + 2 := ⟨j - 2, by omega⟩
  exact of_ok B hD (.inr rfl) h0 h1 hQ
theorem eq_words (x y : List Nat) : (x == y) = decide (x = y) := by
  by_cases h : x = y
  · subst h; simp
  · simp [h]
theorem plain_mem : ∀ {us : List D}, plainD (.tup us) = true → ∀ e ∈ us, plainD e = true
  | u :: us, h, e, he => by
    obtain ⟨h1, h2⟩ := Bool.and_eq_true_iff.mp (show (plainD u && plainDs us) = true from h)
    rcases List.mem_cons.mp he with rfl | he
    · exact h1
    · exact plain_mem (us := us) h2 e he
theorem plain_all {us : List D} (h : ∀ u ∈ us, plainD u = true) : plainDs us = true := by
  induction us with
  | nil => rfl
  | cons u us ih => simp only [plainDs, Bool.and_eq_true]; exact ⟨h u (by simp), ih fun x hx => h x (by simp [hx])⟩
theorem eq_ss (x y : List Nat) : eqD (.str x) (.str y) = (x == y) := rfl
theorem eq_tt (x y : List D) : eqD (.tup x) (.tup y) = eqDs x y := rfl
theorem eq_ll (x y : List D) : eqD (.lst x) (.lst y) = eqDs x y := rfl
theorem flat_tup (M : DM) (ds : List D) : flatR M (.tup ds) = .tup ds := rfl
theorem flat_str (M : DM) (x : List Nat) : flatR M (.str x) = .str x := rfl
theorem flat_int (M : DM) (i : Int) : flatR M (.int i) = .int i := rfl
theorem flat_lst (M : DM) (ds : List D) : flatR M (.lst ds) = .lst ds := rfl
theorem flat_bl (M : DM) (b : Bool) : flatR M (.bl b) = .bl b := rfl
theorem flat_non (M : DM) : flatR M .non = .non := rfl
theorem lc_all {C : Calls} {tg : D → DS → (DS → Prop) → Prop} {elt : DTE} {G : DM → Prop} {δ : DS} {Qx : QX} {Q : List D → DM → Prop} {P : D → Prop} {J : DM → Prop} (hG : ∀ M, J M → G M) (h : ∀ e M (R : QD), J M → (∀ y M', P y → J M' → R y M') → tg e δ fun δ' => elt δ' M Qx R) :
    ∀ ds acc M, J M → (∀ y ∈ acc, P y) → (∀ ys M', (∀ y ∈ ys, P y) → ys.length = acc.length + ds.length → J M' → Q ys M') → lcTurns tg (wpC C []) elt G δ Qx Q ds acc M
  | [], acc, M, hJ, ha, hQ => ⟨hG M hJ, hQ acc M ha rfl hJ⟩
  | d :: ds, acc, M, hJ, ha, hQ => ⟨hG M hJ, h d M _ hJ fun y M' hy hJ' => lc_all hG h ds (acc ++ [y]) M' hJ' (fun z hz => by
      rcases List.mem_append.mp hz with hz | hz
      · exact ha z hz
      · rw [List.mem_singleton.mp hz]
        exact hy) fun ys M2 h1 h2 h3 => hQ ys M2 h1 (by rw [h2, List.length_append, List.length_singleton, List.length_cons]; omega) h3⟩
theorem range_len (lo : Int) (n : Nat) : (rangeD lo n).length = n := by simp [rangeD]
/-- a comprehension that makes of each item one thing; what is known of the items may be used -/
theorem lc_mem {C : Calls} {tg : D → DS → (DS → Prop) → Prop} {elt : DTE} {G : DM → Prop} {δ : DS} {Qx : QX} {Q : List D → DM → Prop} {f : D → D} {M : DM} (hG : G M) :
    ∀ (ds acc : List D), (∀ e ∈ ds, ∀ (R : QD), R (f e) M → tg e δ fun δ' => elt δ' M Qx R) → Q (acc ++ ds.map f) M → lcTurns tg (wpC C []) elt G δ Qx Q ds acc M
  | [], acc, _, hQ => ⟨hG, by simpa using hQ⟩
  | d :: ds, acc, h, hQ => ⟨hG, h d (by simp) (fun y M'' => lcTurns tg (wpC C []) elt G δ Qx Q ds (acc ++ [y]) M'') (lc_mem hG ds _ (fun e he => h e (List.mem_cons_of_mem _ he)) (by simpa using hQ))⟩
/-- the turns of a for: what stands at each -/
theorem for_all {tg : D → DS → (DS → Prop) → Prop} {body : DTS} {G : DM → Prop} {E : DEnds} {J : Nat → DS → DM → Prop} {P : D → Prop} (hG : ∀ n δ M, J n δ M → G M) (hn : ∀ δ M, J 0 δ M → E.nx δ M) (h : ∀ n e δ M N, P e → J (n + 1) δ M → (∀ δ' M', J n δ' M' → N δ' M') → tg e δ fun δ' => body { E with nx := N, ct := N, bk := E.nx } δ' M) :
    ∀ (ds : List D), (∀ e ∈ ds, P e) → ∀ δ M, J ds.length δ M → forTurns tg body G E ds δ M
  | [], _, δ, M, hJ => ⟨hG _ _ _ hJ, hn _ _ hJ⟩
  | e :: ds, hP, δ, M, hJ => ⟨hG _ _ _ hJ, h ds.length e δ M _ (hP e (by simp)) hJ fun δ' M' hJ' => for_all hG hn h ds (fun x hx => hP x (List.mem_cons_of_mem _ hx)) δ' M' hJ'⟩
/-! ### the deal -/
def cellB : D → Bool
  | .int i => decide (10 ^ 18 ≤ i)
  | _ => false
/-- a comprehension with one test that takes items as they are -/
theorem lc_keep {tg : D → DS → (DS → Prop) → Prop} {test : DS → DM → QX → (Bool → DM → Prop) → Prop} {elt : DTE} {G : DM → Prop} {δ : DS} {Qx : QX} {Q : List D → DM → Prop} {p : D → Bool} {M : DM} (hG : G M) :
    ∀ (ds acc : List D), (∀ e ∈ ds, ∀ (R : QD) (N : DM → Prop), (match p e with
      | true => R e M
      | false => N M) → tg e δ fun δ' => test δ' M Qx fun b M' => match b with
      | true => elt δ' M' Qx R
      | false => N M') → Q (acc ++ ds.filter p) M → lcTurns tg test elt G δ Qx Q ds acc M
  | [], acc, _, hQ => ⟨hG, by simpa using hQ⟩
  | d :: ds, acc, h, hQ => by
    refine ⟨hG, h d (by simp) (fun y M'' => lcTurns tg test elt G δ Qx Q ds (acc ++ [y]) M'') (fun M' => lcTurns tg test elt G δ Qx Q ds acc M') ?_⟩
    have h' := fun e he => h e (List.mem_cons_of_mem _ he)
    cases hp : p d with
    | true => exact lc_keep hG ds _ h' (by simpa [hp] using hQ)
    | false => exact lc_keep hG ds _ h' (by simpa [hp] using hQ)
def absI (i : Int) : Int := if i < 0 then -i else i
def absD : D → D
  | .int i => .int (absI i)
  | d => d
theorem cut48 (ns : List Int) : ∃ ms : List Int, Dw.cutD (ns.map D.int) none (some 48) = ms.map D.int ∧ ms.length ≤ 48 := by
  refine ⟨ns.take (min 48 ns.length), ?_, by rw [List.length_take]; omega⟩
  simp [Dw.cutD, sixD, List.map_take]
theorem abs_nn (i : Int) : 0 ≤ absI i := by unfold absI; split <;> omega
theorem draw_at {pg : Pg} (B : Base pg) {j : Nat} {salt : Int} {x : D} {ns : List Int} {M : DM} {Qx : QX} {Q : QD} (hj : 1 ≤ j) (hsalt : 0 ≤ salt ∧ salt < 1000) (hx : (x = .scr (ns.map D.int)) ∨ ∃ a, x = .ref a ∧ M a = some (.lst (ns.map D.int))) (hQ : ∀ d M', Deal M' d → Q d M') : (callW pg j).run B.i_drawL [x, .int salt] M Qx Q := by
  obtain ⟨k, rfl⟩ : ∃ k, j = k + 1 := ⟨j - 1, by omega⟩
  rw [callW_run B.h_drawL]
  refine ⟨rfl, rfl, ?_⟩
  obtain ⟨ms, hms, hml⟩ := cut48 ns
  rcases hx with rfl | ⟨a, rfl, ha⟩
  · simp [Dw.wpT, wpE, wpA, wpI, wpO, wpSs, Dw.wpS, res, lookD, cmpR, ifD, truthD, backQ, backX, Dw.start, isiR, isTys, isTy, notR, bltR, lenOf, seqOf, okEq, okIn, plainD, plainDs, deepD, deepDs, eqD, eqDs, idxR, setDs, Dw.inR, slcV, newL, sameC, mthR, rcvOk, lstAt, resM, tgT, tgTs, Dw.augR, Dw.intD, updM_same, seqI, resI, binR, negR, anyM, flat_tup, flat_str, flat_int, flat_lst, flat_bl, flat_non, f_drawL, hms]
    refine lc_mem (M := M) (f := absD) ?_ _ _ (fun e he R hR => ?_) ?_
    · trivial
    · obtain ⟨i, _, rfl⟩ := List.mem_map.mp he
      simp [Dw.wpT, wpE, wpA, wpI, wpO, wpSs, Dw.wpS, res, lookD, cmpR, ifD, truthD, backQ, backX, Dw.start, isiR, isTys, isTy, notR, bltR, lenOf, seqOf, okEq, okIn, plainD, plainDs, deepD, deepDs, eqD, eqDs, idxR, setDs, Dw.inR, slcV, newL, sameC, mthR, rcvOk, lstAt, resM, tgT, tgTs, Dw.augR, Dw.intD, updM_same, seqI, resI, binR, negR, anyM, flat_tup, flat_str, flat_int, flat_lst, flat_bl, flat_non, wipeD]
      exact hR
    · obtain ⟨ws, hab, hw0, hwl⟩ : ∃ ws : List Int, List.map absD (List.map D.int ms) = ws.map D.int ∧ (∀ w ∈ ws, 0 ≤ w) ∧ ws.length ≤ 48 := by
        refine ⟨ms.map absI, by rw [List.map_map, List.map_map]; rfl, fun w hw => ?_, by rw [List.length_map]; exact hml⟩
        obtain ⟨i, _, rfl⟩ := List.mem_map.mp hw
        exact abs_nn i
      simp only [List.nil_append, hab]
      refine ⟨by unfold mulOk; omega, ?_⟩
      refine for_all (P := fun e => ∃ i, e = .int i) (J := fun n δ M' => M' = M ∧ ∃ (z : D) (b : Int) (e : Option D), δ = [some z, some (.int salt), some (.lst (ws.map D.int)), some (.int b), e]) (fun _ _ _ _ => trivial) ?_ ?_ _ ?_ _ _ ⟨rfl, _, _, _, rfl⟩
      · rintro δ M' ⟨rfl, z, b, e, rfl⟩
        simp [Dw.wpT, wpE, wpA, wpI, wpO, wpSs, Dw.wpS, res, lookD, cmpR, ifD, truthD, backQ, backX, Dw.start, isiR, isTys, isTy, notR, bltR, lenOf, seqOf, okEq, okIn, plainD, plainDs, deepD, deepDs, eqD, eqDs, idxR, setDs, Dw.inR, slcV, newL, sameC, mthR, rcvOk, lstAt, resM, tgT, tgTs, Dw.augR, Dw.intD, updM_same, seqI, resI, binR, negR, anyM, flat_tup, flat_str, flat_int, flat_lst, flat_bl, flat_non, wipeD]
        refine lc_keep (M := M') (p := cellB) ?_ _ _ (fun e he R N h => ?_) ?_
        · trivial
        · obtain ⟨i, _, rfl⟩ := List.mem_map.mp he
          simp [Dw.wpT, wpE, wpA, wpI, wpO, wpSs, Dw.wpS, res, lookD, cmpR, ifD, truthD, backQ, backX, Dw.start, isiR, isTys, isTy, notR, bltR, lenOf, seqOf, okEq, okIn, plainD, plainDs, deepD, deepDs, eqD, eqDs, idxR, setDs, Dw.inR, slcV, newL, sameC, mthR, rcvOk, lstAt, resM, tgT, tgTs, Dw.augR, Dw.intD, updM_same, seqI, resI, binR, negR, anyM, flat_tup, flat_str, flat_int, flat_lst, flat_bl, flat_non, Dw.wpC]
          by_cases hi : (1000000000000000000 : Int) ≤ i
          · simp [cellB, hi] at h ⊢
            exact h
          · simp [cellB, hi] at h ⊢
            exact h
        · simp only [List.nil_append]
          rw [List.filter_map]
          simp [newL, revP]
          intro a1 h1 a2 h2
          refine hQ _ _ ⟨_, a2, a1, (List.filter (cellB ∘ D.int) (ws)).reverse, b, rfl, ?_, updM_same, ?_, ?_, rfl, ?_⟩
          · rintro rfl
            rw [updM_same] at h2
            cases h2
          · rw [updM_ne (fun e => by subst e; rw [updM_same] at h2; cases h2), updM_same, List.map_reverse]
          · intro c hc
            rw [List.mem_reverse, List.mem_filter] at hc
            exact hw0 c hc.1
          · rw [List.length_reverse]
            refine Nat.le_trans (List.length_filter_le _ _) ?_
            exact hwl
      · rintro n e δ M' N ⟨i, rfl⟩ ⟨rfl, z, b, e', rfl⟩ hN
        try simp [Dw.wpT, wpE, wpA, wpI, wpO, wpSs, Dw.wpS, res, lookD, cmpR, ifD, truthD, backQ, backX, Dw.start, isiR, isTys, isTy, notR, bltR, lenOf, seqOf, okEq, okIn, plainD, plainDs, deepD, deepDs, eqD, eqDs, idxR, setDs, Dw.inR, slcV, newL, sameC, mthR, rcvOk, lstAt, resM, tgT, tgTs, Dw.augR, Dw.intD, updM_same, seqI, resI, binR, negR, anyM, flat_tup, flat_str, flat_int, flat_lst, flat_bl, flat_non]
        refine ⟨by unfold mulOk; omega, ?_⟩
        exact hN _ _ ⟨rfl, _, _, _, rfl⟩
      · intro e he
        obtain ⟨i, _, rfl⟩ := List.mem_map.mp he
        exact ⟨i, rfl⟩
  · simp [Dw.wpT, wpE, wpA, wpI, wpO, wpSs, Dw.wpS, res, lookD, cmpR, ifD, truthD, backQ, backX, Dw.start, isiR, isTys, isTy, notR, bltR, lenOf, seqOf, okEq, okIn, plainD, plainDs, deepD, deepDs, eqD, eqDs, idxR, setDs, Dw.inR, slcV, newL, sameC, mthR, rcvOk, lstAt, resM, tgT, tgTs, Dw.augR, Dw.intD, updM_same, seqI, resI, binR, negR, anyM, flat_tup, flat_str, flat_int, flat_lst, flat_bl, flat_non, f_drawL, hms, ha]
    refine lc_mem (M := M) (f := absD) ?_ _ _ (fun e he R hR => ?_) ?_
    · trivial
    · obtain ⟨i, _, rfl⟩ := List.mem_map.mp he
      simp [Dw.wpT, wpE, wpA, wpI, wpO, wpSs, Dw.wpS, res, lookD, cmpR, ifD, truthD, backQ, backX, Dw.start, isiR, isTys, isTy, notR, bltR, lenOf, seqOf, okEq, okIn, plainD, plainDs, deepD, deepDs, eqD, eqDs, idxR, setDs, Dw.inR, slcV, newL, sameC, mthR, rcvOk, lstAt, resM, tgT, tgTs, Dw.augR, Dw.intD, updM_same, seqI, resI, binR, negR, anyM, flat_tup, flat_str, flat_int, flat_lst, flat_bl, flat_non, wipeD]
      exact hR
    · obtain ⟨ws, hab, hw0, hwl⟩ : ∃ ws : List Int, List.map absD (List.map D.int ms) = ws.map D.int ∧ (∀ w ∈ ws, 0 ≤ w) ∧ ws.length ≤ 48 := by
        refine ⟨ms.map absI, by rw [List.map_map, List.map_map]; rfl, fun w hw => ?_, by rw [List.length_map]; exact hml⟩
        obtain ⟨i, _, rfl⟩ := List.mem_map.mp hw
        exact abs_nn i
      simp only [List.nil_append, hab]
      refine ⟨by unfold mulOk; omega, ?_⟩
      refine for_all (P := fun e => ∃ i, e = .int i) (J := fun n δ M' => M' = M ∧ ∃ (z : D) (b : Int) (e : Option D), δ = [some z, some (.int salt), some (.lst (ws.map D.int)), some (.int b), e]) (fun _ _ _ _ => trivial) ?_ ?_ _ ?_ _ _ ⟨rfl, _, _, _, rfl⟩
      · rintro δ M' ⟨rfl, z, b, e, rfl⟩
        simp [Dw.wpT, wpE, wpA, wpI, wpO, wpSs, Dw.wpS, res, lookD, cmpR, ifD, truthD, backQ, backX, Dw.start, isiR, isTys, isTy, notR, bltR, lenOf, seqOf, okEq, okIn, plainD, plainDs, deepD, deepDs, eqD, eqDs, idxR, setDs, Dw.inR, slcV, newL, sameC, mthR, rcvOk, lstAt, resM, tgT, tgTs, Dw.augR, Dw.intD, updM_same, seqI, resI, binR, negR, anyM, flat_tup, flat_str, flat_int, flat_lst, flat_bl, flat_non, wipeD]
        refine lc_keep (M := M') (p := cellB) ?_ _ _ (fun e he R N h => ?_) ?_
        · trivial
        · obtain ⟨i, _, rfl⟩ := List.mem_map.mp he
          simp [Dw.wpT, wpE, wpA, wpI, wpO, wpSs, Dw.wpS, res, lookD, cmpR, ifD, truthD, backQ, backX, Dw.start, isiR, isTys, isTy, notR, bltR, lenOf, seqOf, okEq, okIn, plainD, plainDs, deepD, deepDs, eqD, eqDs, idxR, setDs, Dw.inR, slcV, newL, sameC, mthR, rcvOk, lstAt, resM, tgT, tgTs, Dw.augR, Dw.intD, updM_same, seqI, resI, binR, negR, anyM, flat_tup, flat_str, flat_int, flat_lst, flat_bl, flat_non, Dw.wpC]
          by_cases hi : (1000000000000000000 : Int) ≤ i
          · simp [cellB, hi] at h ⊢
            exact h
          · simp [cellB, hi] at h ⊢
            exact h
        · simp only [List.nil_append]
          rw [List.filter_map]
          simp [newL, revP]
          intro a1 h1 a2 h2
          refine hQ _ _ ⟨_, a2, a1, (List.filter (cellB ∘ D.int) (ws)).reverse, b, rfl, ?_, updM_same, ?_, ?_, rfl, ?_⟩
          · rintro rfl
            rw [updM_same] at h2
            cases h2
          · rw [updM_ne (fun e => by subst e; rw [updM_same] at h2; cases h2), updM_same, List.map_reverse]
          · intro c hc
            rw [List.mem_reverse, List.mem_filter] at hc
            exact hw0 c hc.1
          · rw [List.length_reverse]
            refine Nat.le_trans (List.length_filter_le _ _) ?_
            exact hwl
      · rintro n e δ M' N ⟨i, rfl⟩ ⟨rfl, z, b, e', rfl⟩ hN
        try simp [Dw.wpT, wpE, wpA, wpI, wpO, wpSs, Dw.wpS, res, lookD, cmpR, ifD, truthD, backQ, backX, Dw.start, isiR, isTys, isTy, notR, bltR, lenOf, seqOf, okEq, okIn, plainD, plainDs, deepD, deepDs, eqD, eqDs, idxR, setDs, Dw.inR, slcV, newL, sameC, mthR, rcvOk, lstAt, resM, tgT, tgTs, Dw.augR, Dw.intD, updM_same, seqI, resI, binR, negR, anyM, flat_tup, flat_str, flat_int, flat_lst, flat_bl, flat_non]
        refine ⟨by unfold mulOk; omega, ?_⟩
        exact hN _ _ ⟨rfl, _, _, _, rfl⟩
      · intro e he
        obtain ⟨i, _, rfl⟩ := List.mem_map.mp he
        exact ⟨i, rfl⟩
end LL
set_option Elab.async false
set_option linter.all false
set_option maxRecDepth 100000
set_option maxHeartbeats 4000000
/-! DwL2: names, labels, rows: of any plain data. -/
namespace LL
open PySem PySem.Spec PyProof.Rows L2 Dw
def wordsL : List (List Nat) := [w_piece, w_needs, w_effect, w_own, w_let, w_rec, w_in, w_show, w_fun, w_if, w_then, w_else, w_case, w_of, w_none, w_put, w_do, w_catch, w_with, w_seal, w_open, w_first, w_second, w_true, w_false, w_unit, w_int, w_truth, w_pair, w_list, w_add, w_sub, w_mul, w_less, w_same, w_not, w_end]
theorem words_eq : c_WORDS = .tup (wordsL.map D.str) := rfl
theorem plain_strs (xs : List (List Nat)) : plainDs (xs.map D.str) = true := by
  induction xs with
  | nil => rfl
  | cons x xs ih => exact ih
theorem deep_strs (xs : List (List Nat)) : deepDs (xs.map D.str) = 0 := by
  induction xs with
  | nil => rfl
  | cons x xs ih => show max 0 _ = 0; rw [ih]; rfl
theorem any_strs2 (xs : List (List Nat)) (x : List Nat) : (xs.any ((fun z => eqD z (.str x)) ∘ D.str)) = xs.contains x := by
  induction xs with
  | nil => rfl
  | cons y xs ih =>
    rw [List.any_cons, ih, List.contains_cons]
    show (y == x || _) = (x == y || _)
    rw [eq_words, eq_words]
    congr 1
    exact decide_eq_decide.mpr ⟨Eq.symm, Eq.symm⟩
def signB (c : Nat) : Bool := w__49.contains c || w_0123456789.contains c
theorem sign_all (c : Nat) : w__50.contains c = signB c := by
  have e : w__50 = w__49 ++ w_0123456789 := by decide
  unfold signB
  rw [e, List.contains_eq_mem, List.contains_eq_mem, List.contains_eq_mem]
  simp [List.mem_append]
def nameB (x : List Nat) : Bool := decide (1 ≤ x.length) && decide (x.length ≤ 12) && !wordsL.contains x && (match x with
  | c :: r => w__49.contains c && (c :: r).all signB
  | [] => false)
def nameD : D → Bool
  | .str x => nameB x
  | _ => false
def signD : D → D
  | .str [c] => .bl (signB c)
  | d => d
theorem bls_signs (xs : List Nat) : blsOf (xs.map fun c => signD (.str [c])) = some (xs.map signB) := by
  induction xs with
  | nil => rfl
  | cons x xs ih => show (blsOf _).map _ = _; rw [ih]; rfl
theorem sign_mem (c : Nat) : decide (c ∈ w__50) = signB c := by
  rw [← sign_all, List.contains_eq_mem]
def noS : D → Bool
  | .str [c] => !signB c
  | _ => false
theorem no_signs (xs : List Nat) : eqDs ((xs.map fun c => D.str [c]).filter noS) [] = xs.all signB := by
  induction xs with
  | nil => rfl
  | cons x xs ih =>
    cases h : signB x with
    | true => simpa [noS, h] using ih
    | false => simp [noS, h, eqDs]
theorem no_plain (xs : List Nat) : plainDs ((xs.map fun c => D.str [c]).filter noS) = true := by
  induction xs with
  | nil => rfl
  | cons x xs ih =>
    cases h : signB x with
    | true => simpa [noS, h] using ih
    | false => simpa [noS, h, plainDs, plainD] using ih
def isIntD : D → Bool
  | .int _ => true
  | _ => false
def idxB (n : Int) : D → Bool
  | .int i => decide (0 ≤ i) && decide (i < n)
  | _ => false
def labelD : D → Bool
  | .tup [x, y] => nameD x && nameD y
  | _ => false
theorem len_e1 (n : Nat) : ((n : Int) + 1 + 1 == 1) = false := by rw [beq_eq_false_iff_ne]; omega
theorem len_e2 (n : Nat) : ((n : Int) + 1 + 1 + 1 == 2) = false := by rw [beq_eq_false_iff_ne]; omega
theorem len_e3 (n : Nat) : ((n : Int) + 1 + 1 + 1 + 1 == 3) = false := by rw [beq_eq_false_iff_ne]; omega
theorem len_e4 (n : Nat) : ((n : Int) + 1 + 1 + 1 + 1 + 1 == 4) = false := by rw [beq_eq_false_iff_ne]; omega
section
variable {pg : Pg} (B : Base pg) {j : Nat} {M : DM} {Qx : QX} {Q : QD}
include B
theorem name_at {x : List Nat} (hj : 1 ≤ j) (hQ : Q (.bl (nameB x)) M) : (callW pg j).run B.i_is_name [.str x] M Qx Q := by
  obtain ⟨k, rfl⟩ : ∃ k, j = k + 1 := ⟨j - 1, by omega⟩
  rw [callW_run B.h_is_name]
  refine ⟨rfl, rfl, ?_⟩
  simp [Dw.wpT, wpE, wpA, wpI, wpO, wpSs, Dw.wpS, res, lookD, cmpR, ifD, truthD, f_is_name, backQ, Dw.start, isiR, isTys, isTy, notR, bltR, lenOf, Dw.inR, seqOf, words_eq, okIn, plainD, plain_strs, deep_strs, any_strs2, c_MOST_SIGNS]
  cases x with
  | nil => simpa [nameB] using hQ
  | cons c r =>
    have e1 : decide ((1 : Int) ≤ (r.length : Int) + 1) = true := decide_eq_true (by omega)
    by_cases h12 : (r.length : Int) + 1 ≤ 12
    · have h12' : r.length + 1 ≤ 12 := by omega
      by_cases hW : (c :: r) ∈ wordsL
      · simp [nameB, h12', hW] at hQ
        simp [e1, h12, hW]
        exact hQ
      · simp [nameB, h12', hW] at hQ
        simp [e1, h12, hW, idxR, ix_zero, c_LETTERS, c_DIGITS, signOf]
        by_cases hc : c ∈ w__49
        · simp [hc] at hQ ⊢
          simp [seqI, resI]
          refine lc_mem (M := M) (f := signD) ?_ _ _ (fun e he R hR => ?_) ?_
          · trivial
          · obtain ⟨x, hx, rfl⟩ : ∃ x ∈ c :: r, e = .str [x] := by
              rcases List.mem_cons.mp he with rfl | he
              · exact ⟨c, by simp, rfl⟩
              · obtain ⟨x, hx, rfl⟩ := List.mem_map.mp he
                exact ⟨x, by simp [hx], rfl⟩
            simp [tgT, wipeD, Dw.wpC, wpE, wpA, res, lookD, signOf]
            by_cases h1 : x ∈ w__49 <;> simpa [h1, signD, signB] using hR
          · have e := bls_signs (c :: r)
            simp only [List.map_cons] at e
            have e2 : blsOf (signD (.str [c]) :: List.map (signD ∘ fun c => D.str [c]) r) = some (signB c :: r.map signB) := by rw [← e, Function.comp_def]
            simp [newL, e2]
            simpa using hQ
        · simpa [hc] using hQ
    · have h12' : ¬(r.length + 1 ≤ 12) := by omega
      simp [nameB, h12'] at hQ
      simp [e1, h12]
      exact hQ
theorem name_any {d : D} (hj : 1 ≤ j) (hp : plainD d = true) (hQ : Q (.bl (nameD d)) M) : (callW pg j).run B.i_is_name [d] M Qx Q := by
  cases d with
  | str x => exact name_at B hj hQ
  | _ => first
    | (exfalso; cases hp; done)
    | (obtain ⟨k, rfl⟩ : ∃ k, j = k + 1 := ⟨j - 1, by omega⟩
       rw [callW_run B.h_is_name]
       refine ⟨rfl, rfl, ?_⟩
       simp [Dw.wpT, wpE, wpA, wpI, wpO, wpSs, Dw.wpS, res, lookD, cmpR, ifD, truthD, backQ, backX, Dw.start, isiR, isTys, isTy, notR, bltR, lenOf, seqOf, okEq, okIn, plainD, plainDs, deepD, deepDs, eqD, eqDs, idxR, setDs, Dw.inR, slcV, newL, sameC, mthR, rcvOk, lstAt, resM, tgT, tgTs, Dw.augR, Dw.intD, updM_same, seqI, resI, binR, negR, anyM, flat_tup, flat_str, flat_int, flat_lst, flat_bl, flat_non, f_is_name]
       exact hQ)
theorem namel_at {x : List Nat} (hj : 1 ≤ j) (hQ : Q (.bl (nameB x)) M) : (callW pg j).run B.i_is_nameL [.str x] M Qx Q := by
  obtain ⟨k, rfl⟩ : ∃ k, j = k + 1 := ⟨j - 1, by omega⟩
  rw [callW_run B.h_is_nameL]
  refine ⟨rfl, rfl, ?_⟩
  have ew : ∀ ws : List (List Nat), ws = wordsL → True := fun _ _ => trivial
  simp only [f_is_nameL]
  rw [show ([w_piece, w_needs, w_effect, w_own, w_let, w_rec, w_in, w_show, w_fun, w_if, w_then, w_else, w_case, w_of, w_none, w_put, w_do, w_catch, w_with, w_seal, w_open, w_first, w_second, w_true, w_false, w_unit, w_int, w_truth, w_pair, w_list, w_add, w_sub, w_mul, w_less, w_same, w_not, w_end] : List (List Nat)) = wordsL from rfl]
  simp [Dw.wpT, wpE, wpA, wpI, wpO, wpSs, Dw.wpS, res, lookD, cmpR, ifD, truthD, backQ, Dw.start, isiR, isTys, isTy, notR, bltR, lenOf, Dw.inR, seqOf, okIn, plainD, plain_strs, deep_strs, any_strs2]
  cases x with
  | nil => simpa [nameB] using hQ
  | cons c r =>
    have e1 : decide ((1 : Int) ≤ (r.length : Int) + 1) = true := decide_eq_true (by omega)
    by_cases h12 : (r.length : Int) + 1 ≤ 12
    · have h12' : r.length + 1 ≤ 12 := by omega
      by_cases hW : (c :: r) ∈ wordsL
      · simp [nameB, h12', hW] at hQ
        simp [e1, h12, hW]
        exact hQ
      · simp [nameB, h12', hW] at hQ
        simp [e1, h12, hW, idxR, ix_zero, signOf]
        by_cases hc : c ∈ w__49
        · simp [hc] at hQ ⊢
          simp [seqI, resI]
          refine lc_keep (M := M) (p := noS) ?_ _ _ (fun e he R N h => ?_) ?_
          · trivial
          · obtain ⟨x, hx, rfl⟩ : ∃ x ∈ c :: r, e = .str [x] := by
              rcases List.mem_cons.mp he with rfl | he
              · exact ⟨c, by simp, rfl⟩
              · obtain ⟨x, hx, rfl⟩ := List.mem_map.mp he
                exact ⟨x, by simp [hx], rfl⟩
            have es := sign_mem x
            simp [tgT, wipeD, Dw.wpC, wpE, wpA, res, lookD, cmpR, Dw.inR, signOf, ifD, truthD, es]
            cases hs : signB x <;> simpa [noS, hs] using h
          · have e1 := no_signs (c :: r)
            have e2 := no_plain (c :: r)
            simp only [List.map_cons] at e1 e2
            simp only [List.nil_append]
            simp [newL, okEq, flat_lst, plainD, plainDs, deepD, deepDs, eqD, e1, e2]
            simpa using hQ
        · simpa [hc] using hQ
    · have h12' : ¬(r.length + 1 ≤ 12) := by omega
      simp [nameB, h12'] at hQ
      simp [e1, h12]
      exact hQ
theorem namel_any {d : D} (hj : 1 ≤ j) (hp : plainD d = true) (hQ : Q (.bl (nameD d)) M) : (callW pg j).run B.i_is_nameL [d] M Qx Q := by
  cases d with
  | str x => exact namel_at B hj hQ
  | _ => first
    | (exfalso; cases hp; done)
    | (obtain ⟨k, rfl⟩ : ∃ k, j = k + 1 := ⟨j - 1, by omega⟩
       rw [callW_run B.h_is_nameL]
       refine ⟨rfl, rfl, ?_⟩
       simp [Dw.wpT, wpE, wpA, wpI, wpO, wpSs, Dw.wpS, res, lookD, cmpR, ifD, truthD, backQ, backX, Dw.start, isiR, isTys, isTy, notR, bltR, lenOf, seqOf, okEq, okIn, plainD, plainDs, deepD, deepDs, eqD, eqDs, idxR, setDs, Dw.inR, slcV, newL, sameC, mthR, rcvOk, lstAt, resM, tgT, tgTs, Dw.augR, Dw.intD, updM_same, seqI, resI, binR, negR, anyM, flat_tup, flat_str, flat_int, flat_lst, flat_bl, flat_non, f_is_nameL]
       exact hQ)
theorem integer_at {x : D} (hj : 1 ≤ j) (hp : plainD x = true) (hQ : Q (.bl (isIntD x)) M) : (callW pg j).run B.i_is_integer [x] M Qx Q := by
  obtain ⟨k, rfl⟩ : ∃ k, j = k + 1 := ⟨j - 1, by omega⟩
  rw [callW_run B.h_is_integer]
  refine ⟨rfl, rfl, ?_⟩
  cases x <;> first
    | (cases hp; done)
    | (simp [Dw.wpT, wpE, wpA, wpI, wpO, wpSs, Dw.wpS, res, lookD, cmpR, ifD, truthD, backQ, backX, Dw.start, isiR, isTys, isTy, notR, bltR, lenOf, seqOf, okEq, okIn, plainD, plainDs, deepD, deepDs, eqD, eqDs, idxR, setDs, Dw.inR, slcV, newL, sameC, mthR, rcvOk, lstAt, resM, tgT, tgTs, Dw.augR, Dw.intD, updM_same, seqI, resI, binR, negR, anyM, flat_tup, flat_str, flat_int, flat_lst, flat_bl, flat_non, f_is_integer]; exact hQ)
theorem isint_at {x : D} (hc : pg[B.i_is_intL]? = some f_is_intL) (hj : 1 ≤ j) (hp : plainD x = true) (hQ : Q (.bl (isIntD x)) M) : (callW pg j).run B.i_is_intL [x] M Qx Q := by
  obtain ⟨k, rfl⟩ : ∃ k, j = k + 1 := ⟨j - 1, by omega⟩
  rw [callW_run hc]
  refine ⟨rfl, rfl, ?_⟩
  cases x <;> first
    | (cases hp; done)
    | (simp [Dw.wpT, wpE, wpA, wpI, wpO, wpSs, Dw.wpS, res, lookD, cmpR, ifD, truthD, backQ, backX, Dw.start, isiR, isTys, isTy, notR, bltR, lenOf, seqOf, okEq, okIn, plainD, plainDs, deepD, deepDs, eqD, eqDs, idxR, setDs, Dw.inR, slcV, newL, sameC, mthR, rcvOk, lstAt, resM, tgT, tgTs, Dw.augR, Dw.intD, updM_same, seqI, resI, binR, negR, anyM, flat_tup, flat_str, flat_int, flat_lst, flat_bl, flat_non, f_is_intL]; exact hQ)
theorem index_any {x : D} {n : Int} (hj : 2 ≤ j) (hp : plainD x = true) (hQ : Q (.bl (idxB n x)) M) : (callW pg j).run B.i_is_index [x, .int n] M Qx Q := by
  obtain ⟨k, rfl⟩ : ∃ k, j = k + 1 := ⟨j - 1, by omega⟩
  rw [callW_run B.h_is_index]
  refine ⟨rfl, rfl, ?_⟩
  simp [Dw.wpT, wpE, wpA, wpI, wpO, wpSs, Dw.wpS, res, lookD, cmpR, ifD, truthD, backQ, backX, Dw.start, isiR, isTys, isTy, notR, bltR, lenOf, seqOf, okEq, okIn, plainD, plainDs, deepD, deepDs, eqD, eqDs, idxR, setDs, Dw.inR, slcV, newL, sameC, mthR, rcvOk, lstAt, resM, tgT, tgTs, Dw.augR, Dw.intD, updM_same, seqI, resI, binR, negR, anyM, flat_tup, flat_str, flat_int, flat_lst, flat_bl, flat_non, f_is_index]
  refine integer_at B (by omega) hp ?_
  cases x with
  | int i =>
    simp [isIntD]
    by_cases h0 : 0 ≤ i
    · simpa [idxB, h0] using hQ
    · simpa [idxB, h0] using hQ
  | _ => first
    | (exfalso; cases hp; done)
    | (simp [isIntD]; exact hQ)
theorem label_any {d : D} (hj : 2 ≤ j) (hp : plainD d = true) (hQ : Q (.bl (labelD d)) M) : (callW pg j).run B.i_is_label [d] M Qx Q := by
  obtain ⟨k, rfl⟩ : ∃ k, j = k + 1 := ⟨j - 1, by omega⟩
  rw [callW_run B.h_is_label]
  refine ⟨rfl, rfl, ?_⟩
  cases d with
  | tup ds =>
    match ds, hp, hQ with
    | [], hp, hQ =>
      simp [Dw.wpT, wpE, wpA, wpI, wpO, wpSs, Dw.wpS, res, lookD, cmpR, ifD, truthD, backQ, backX, Dw.start, isiR, isTys, isTy, notR, bltR, lenOf, seqOf, okEq, okIn, plainD, plainDs, deepD, deepDs, eqD, eqDs, idxR, setDs, Dw.inR, slcV, newL, sameC, mthR, rcvOk, lstAt, resM, tgT, tgTs, Dw.augR, Dw.intD, updM_same, seqI, resI, binR, negR, anyM, flat_tup, flat_str, flat_int, flat_lst, flat_bl, flat_non, f_is_label]
      exact hQ
    | [x], hp, hQ =>
      simp [Dw.wpT, wpE, wpA, wpI, wpO, wpSs, Dw.wpS, res, lookD, cmpR, ifD, truthD, backQ, backX, Dw.start, isiR, isTys, isTy, notR, bltR, lenOf, seqOf, okEq, okIn, plainD, plainDs, deepD, deepDs, eqD, eqDs, idxR, setDs, Dw.inR, slcV, newL, sameC, mthR, rcvOk, lstAt, resM, tgT, tgTs, Dw.augR, Dw.intD, updM_same, seqI, resI, binR, negR, anyM, flat_tup, flat_str, flat_int, flat_lst, flat_bl, flat_non, f_is_label]
      exact hQ
    | [x, y], hp, hQ =>
      simp [plainD, plainDs] at hp
      simp [Dw.wpT, wpE, wpA, wpI, wpO, wpSs, Dw.wpS, res, lookD, cmpR, ifD, truthD, backQ, backX, Dw.start, isiR, isTys, isTy, notR, bltR, lenOf, seqOf, okEq, okIn, plainD, plainDs, deepD, deepDs, eqD, eqDs, idxR, setDs, Dw.inR, slcV, newL, sameC, mthR, rcvOk, lstAt, resM, tgT, tgTs, Dw.augR, Dw.intD, updM_same, seqI, resI, binR, negR, anyM, flat_tup, flat_str, flat_int, flat_lst, flat_bl, flat_non, f_is_label, ixD]
      refine name_any B (by omega) hp.1 ?_
      simp only [labelD] at hQ
      cases hx : nameD x with
      | false =>
        rw [hx] at hQ
        simpa using hQ
      | true =>
        rw [hx] at hQ
        simp
        refine name_any B (by omega) hp.2 ?_
        simpa using hQ
    | x :: y :: z :: r, hp, hQ =>
      simp [Dw.wpT, wpE, wpA, wpI, wpO, wpSs, Dw.wpS, res, lookD, cmpR, ifD, truthD, backQ, backX, Dw.start, isiR, isTys, isTy, notR, bltR, lenOf, seqOf, okEq, okIn, plainD, plainDs, deepD, deepDs, eqD, eqDs, idxR, setDs, Dw.inR, slcV, newL, sameC, mthR, rcvOk, lstAt, resM, tgT, tgTs, Dw.augR, Dw.intD, updM_same, seqI, resI, binR, negR, anyM, flat_tup, flat_str, flat_int, flat_lst, flat_bl, flat_non, f_is_label, len_e2]
      exact hQ
  | _ => first
    | (exfalso; cases hp; done)
    | (simp [Dw.wpT, wpE, wpA, wpI, wpO, wpSs, Dw.wpS, res, lookD, cmpR, ifD, truthD, backQ, backX, Dw.start, isiR, isTys, isTy, notR, bltR, lenOf, seqOf, okEq, okIn, plainD, plainDs, deepD, deepDs, eqD, eqDs, idxR, setDs, Dw.inR, slcV, newL, sameC, mthR, rcvOk, lstAt, resM, tgT, tgTs, Dw.augR, Dw.intD, updM_same, seqI, resI, binR, negR, anyM, flat_tup, flat_str, flat_int, flat_lst, flat_bl, flat_non, f_is_label]
       exact hQ)
end
end LL
set_option Elab.async false
set_option linter.all false
set_option maxRecDepth 100000
set_option maxHeartbeats 4000000
/-! DwL3: rows and types judged: of any plain data. -/
namespace LL
open PySem PySem.Spec PyProof.Rows L2 Dw
def sortedB : List D → Bool
  | a :: b :: r => ltD a b && sortedB (b :: r)
  | _ => true
def isNon : D → Bool
  | .non => true
  | _ => false
def rowB : D → Bool
  | .tup [.tup ls, e] => ls.all labelD && decide (ls.length ≤ 2000) && sortedB ls && (isNon e || idxB 60 e)
  | _ => false
theorem same_non (e : D) : sameC e .non = some (isNon e) := by cases e <;> rfl
theorem cut_front {α : Type} (xs : List α) (n : Nat) (h : n ≤ xs.length) : Dw.cutD xs none (some (n : Int)) = xs.take n := by
  simp [Dw.cutD, sixD]
  rw [if_neg (by omega)]
  simp [Nat.min_eq_left h]
theorem cut_one {α : Type} (xs : List α) : Dw.cutD xs (some 1) none = xs.drop 1 := by
  cases xs with
  | nil => rfl
  | cons x xs =>
    simp [Dw.cutD, sixD]
def labF (d : D) : D := .bl (labelD d)
theorem bls_lab (xs : List D) : blsOf (xs.map labF) = some (xs.map labelD) := by
  induction xs with
  | nil => rfl
  | cons x xs ih => show (blsOf _).map _ = _; rw [ih]; rfl
def ltPB : D → Bool
  | .tup [a, b] => ltD a b
  | _ => false
def ltF (d : D) : D := .bl (ltPB d)
theorem bls_lt (xs : List D) : blsOf (xs.map ltF) = some (xs.map ltPB) := by
  induction xs with
  | nil => rfl
  | cons x xs ih => show (blsOf _).map _ = _; rw [ih]; rfl
theorem zip_sorted : ∀ ls : List D, (zipD ls (ls.drop 1)).all ltPB = sortedB ls
  | [] => rfl
  | [_] => rfl
  | a :: b :: r => by
    have ih := zip_sorted (b :: r)
    show (ltPB (.tup [a, b]) && (zipD (b :: r) r).all ltPB) = _
    rw [show sortedB (a :: b :: r) = (ltD a b && sortedB (b :: r)) from rfl, ← ih]
    rfl
theorem zip_mem : ∀ (xs ys : List D) (e : D), e ∈ zipD xs ys → ∃ a ∈ xs, ∃ b ∈ ys, e = .tup [a, b]
  | [], _, e, h => by simp [zipD] at h
  | _ :: _, [], e, h => by simp [zipD] at h
  | x :: xs, y :: ys, e, h => by
    simp only [zipD, List.mem_cons] at h
    rcases h with rfl | h
    · exact ⟨x, by simp, y, by simp, rfl⟩
    · obtain ⟨a, ha, b, hb, e'⟩ := zip_mem xs ys e h
      exact ⟨a, by simp [ha], b, by simp [hb], e'⟩
theorem label_two {d : D} (h : labelD d = true) : ∃ x y, d = .tup [.str x, .str y] ∧ nameB x = true ∧ nameB y = true := by
  unfold labelD at h
  split at h
  · rename_i a b
    rw [Bool.and_eq_true] at h
    obtain ⟨h1, h2⟩ := h
    cases a <;> first | cases h1 | skip
    cases b <;> first | cases h2 | skip
    exact ⟨_, _, rfl, h1, h2⟩
  · cases h
theorem ww : (w_int == w_truth) = false ∧ (w_int == w_unit) = false ∧ (w_int == w_pair) = false ∧ (w_int == w_list) = false ∧ (w_int == w_fun) = false ∧ (w_int == w_own) = false ∧ (w_int == w_var) = false ∧ (w_truth == w_int) = false ∧ (w_truth == w_unit) = false ∧ (w_truth == w_pair) = false ∧ (w_truth == w_list) = false ∧ (w_truth == w_fun) = false ∧ (w_truth == w_own) = false ∧ (w_truth == w_var) = false ∧ (w_unit == w_int) = false ∧ (w_unit == w_truth) = false ∧ (w_unit == w_pair) = false ∧ (w_unit == w_list) = false ∧ (w_unit == w_fun) = false ∧ (w_unit == w_own) = false ∧ (w_unit == w_var) = false ∧ (w_pair == w_int) = false ∧ (w_pair == w_truth) = false ∧ (w_pair == w_unit) = false ∧ (w_pair == w_list) = false ∧ (w_pair == w_fun) = false ∧ (w_pair == w_own) = false ∧ (w_pair == w_var) = false ∧ (w_list == w_int) = false ∧ (w_list == w_truth) = false ∧ (w_list == w_unit) = false ∧ (w_list == w_pair) = false ∧ (w_list == w_fun) = false ∧ (w_list == w_own) = false ∧ (w_list == w_var) = false ∧ (w_fun == w_int) = false ∧ (w_fun == w_truth) = false ∧ (w_fun == w_unit) = false ∧ (w_fun == w_pair) = false ∧ (w_fun == w_list) = false ∧ (w_fun == w_own) = false ∧ (w_fun == w_var) = false ∧ (w_own == w_int) = false ∧ (w_own == w_truth) = false ∧ (w_own == w_unit) = false ∧ (w_own == w_pair) = false ∧ (w_own == w_list) = false ∧ (w_own == w_fun) = false ∧ (w_own == w_var) = false ∧ (w_var == w_int) = false ∧ (w_var == w_truth) = false ∧ (w_var == w_unit) = false ∧ (w_var == w_pair) = false ∧ (w_var == w_list) = false ∧ (w_var == w_fun) = false ∧ (w_var == w_own) = false := by decide
/-- what inner_types answers -/
def kidsD : D → List D × Bool
  | .tup (.str w :: r) =>
    if w = w_int then ([], (r.length : Int) + 1 == 1)
    else if w = w_truth then ([], (r.length : Int) + 1 == 1)
    else if w = w_unit then ([], (r.length : Int) + 1 == 1)
    else if w = w_pair then (r, (r.length : Int) + 1 == 3)
    else if w = w_list then (r, (r.length : Int) + 1 == 2)
    else if w = w_fun then (match r with
      | [a, row, b] => ([a, b], rowB row)
      | _ => ([], false))
    else if w = w_own then ([], match r with
      | [x, y] => nameD x && nameD y
      | _ => false)
    else if w = w_var then ([], match r with
      | [x] => idxB 60 x
      | _ => false)
    else ([], false)
  | _ => ([], false)
section
variable {pg : Pg} (B : Base pg) {j : Nat} {M : DM} {Qx : QX} {Q : QD}
include B
theorem row_any {d : D} (hj : 3 ≤ j) (hp : plainD d = true) (hQ : Q (.bl (rowB d)) M) : (callW pg j).run B.i_is_row [d] M Qx Q := by
  obtain ⟨k, rfl⟩ : ∃ k, j = k + 1 := ⟨j - 1, by omega⟩
  rw [callW_run B.h_is_row]
  refine ⟨rfl, rfl, ?_⟩
  cases d with
  | tup ds =>
    match ds, hp, hQ with
    | [], hp, hQ =>
      simp [Dw.wpT, wpE, wpA, wpI, wpO, wpSs, Dw.wpS, res, lookD, cmpR, ifD, truthD, backQ, backX, Dw.start, isiR, isTys, isTy, notR, bltR, lenOf, seqOf, okEq, okIn, plainD, plainDs, deepD, deepDs, eqD, eqDs, idxR, setDs, Dw.inR, slcV, newL, sameC, mthR, rcvOk, lstAt, resM, tgT, tgTs, Dw.augR, Dw.intD, updM_same, seqI, resI, binR, negR, anyM, flat_tup, flat_str, flat_int, flat_lst, flat_bl, flat_non, f_is_row]
      exact hQ
    | [x], hp, hQ =>
      simp [rowB] at hQ
      simp [Dw.wpT, wpE, wpA, wpI, wpO, wpSs, Dw.wpS, res, lookD, cmpR, ifD, truthD, backQ, backX, Dw.start, isiR, isTys, isTy, notR, bltR, lenOf, seqOf, okEq, okIn, plainD, plainDs, deepD, deepDs, eqD, eqDs, idxR, setDs, Dw.inR, slcV, newL, sameC, mthR, rcvOk, lstAt, resM, tgT, tgTs, Dw.augR, Dw.intD, updM_same, seqI, resI, binR, negR, anyM, flat_tup, flat_str, flat_int, flat_lst, flat_bl, flat_non, f_is_row]
      exact hQ
    | x :: y :: z :: r, hp, hQ =>
      simp [rowB] at hQ
      simp [Dw.wpT, wpE, wpA, wpI, wpO, wpSs, Dw.wpS, res, lookD, cmpR, ifD, truthD, backQ, backX, Dw.start, isiR, isTys, isTy, notR, bltR, lenOf, seqOf, okEq, okIn, plainD, plainDs, deepD, deepDs, eqD, eqDs, idxR, setDs, Dw.inR, slcV, newL, sameC, mthR, rcvOk, lstAt, resM, tgT, tgTs, Dw.augR, Dw.intD, updM_same, seqI, resI, binR, negR, anyM, flat_tup, flat_str, flat_int, flat_lst, flat_bl, flat_non, f_is_row, len_e2]
      exact hQ
    | [l, e], hp, hQ =>
      simp [plainD, plainDs] at hp
      cases l with
      | tup ls =>
        simp [Dw.wpT, wpE, wpA, wpI, wpO, wpSs, Dw.wpS, res, lookD, cmpR, ifD, truthD, backQ, backX, Dw.start, isiR, isTys, isTy, notR, bltR, lenOf, seqOf, okEq, okIn, plainD, plainDs, deepD, deepDs, eqD, eqDs, idxR, setDs, Dw.inR, slcV, newL, sameC, mthR, rcvOk, lstAt, resM, tgT, tgTs, Dw.augR, Dw.intD, updM_same, seqI, resI, binR, negR, anyM, flat_tup, flat_str, flat_int, flat_lst, flat_bl, flat_non, f_is_row, ixD, c_MOST_PARTS]
        refine lc_mem (M := M) (f := labF) ?_ _ _ (fun o ho R hR => ?_) ?_
        · trivial
        · simp [Dw.wpT, wpE, wpA, wpI, wpO, wpSs, Dw.wpS, res, lookD, cmpR, ifD, truthD, backQ, backX, Dw.start, isiR, isTys, isTy, notR, bltR, lenOf, seqOf, okEq, okIn, plainD, plainDs, deepD, deepDs, eqD, eqDs, idxR, setDs, Dw.inR, slcV, newL, sameC, mthR, rcvOk, lstAt, resM, tgT, tgTs, Dw.augR, Dw.intD, updM_same, seqI, resI, binR, negR, anyM, flat_tup, flat_str, flat_int, flat_lst, flat_bl, flat_non, wipeD]
          exact label_any B (by omega) (plain_mem hp.1 o ho) hR
        · simp only [List.nil_append]
          have hlen : (2000 : Int) < ls.length ↔ ¬(ls.length ≤ 2000) := by omega
          simp [Dw.wpT, wpE, wpA, wpI, wpO, wpSs, Dw.wpS, res, lookD, cmpR, ifD, truthD, backQ, backX, Dw.start, isiR, isTys, isTy, notR, bltR, lenOf, seqOf, okEq, okIn, plainD, plainDs, deepD, deepDs, eqD, eqDs, idxR, setDs, Dw.inR, slcV, newL, sameC, mthR, rcvOk, lstAt, resM, tgT, tgTs, Dw.augR, Dw.intD, updM_same, seqI, resI, binR, negR, anyM, flat_tup, flat_str, flat_int, flat_lst, flat_bl, flat_non, bls_lab, hlen]
          cases hl : ls.all labelD with
          | false =>
            simp [rowB, hl] at hQ
            simp
            exact hQ
          | true =>
            by_cases hn : ls.length ≤ 2000
            · simp [rowB, hl, hn] at hQ
              simp [Nat.not_lt.mpr hn, zipI, cut_one]
              refine lc_mem (M := M) (f := ltF) ?_ _ _ (fun o ho R hR => ?_) ?_
              · trivial
              · obtain ⟨a, ha, b, hb, rfl⟩ := zip_mem _ _ _ ho
                have hb' : b ∈ ls := by
                  cases ls with
                  | nil => simp at hb
                  | cons x xs => exact List.mem_cons_of_mem _ (by simpa using hb)
                obtain ⟨x, y, rfl, _, _⟩ := label_two (List.all_eq_true.mp hl a ha)
                obtain ⟨x', y', rfl, _, _⟩ := label_two (List.all_eq_true.mp hl b hb')
                simp [Dw.wpT, wpE, wpA, wpI, wpO, wpSs, Dw.wpS, res, lookD, cmpR, ifD, truthD, backQ, backX, Dw.start, isiR, isTys, isTy, notR, bltR, lenOf, seqOf, okEq, okIn, plainD, plainDs, deepD, deepDs, eqD, eqDs, idxR, setDs, Dw.inR, slcV, newL, sameC, mthR, rcvOk, lstAt, resM, tgT, tgTs, Dw.augR, Dw.intD, updM_same, seqI, resI, binR, negR, anyM, flat_tup, flat_str, flat_int, flat_lst, flat_bl, flat_non, wipeD, alikeDs, alikeD]
                exact hR
              · have hz : (zipD ls ls.tail).all ltPB = sortedB ls := by rw [← List.drop_one]; exact zip_sorted ls
                simp only [List.nil_append]
                simp [newL, bltR, bls_lt, res, hz]
                cases hs : sortedB ls with
                | false =>
                  rw [hs] at hQ
                  simp [notR, truthD, ifD]
                  simpa using hQ
                | true =>
                  rw [hs] at hQ
                  simp [notR, truthD, ifD, c_MOST_VARIABLES]
                  cases e with
                  | non => simpa [isNon] using hQ
                  | _ => first
                    | (exfalso; cases hp.2; done)
                    | (simp [isNon] at hQ ⊢
                       exact index_any B (by omega) hp.2 hQ)
            · simp [rowB, hl, hn] at hQ
              simp [Nat.not_le.mp hn]
              exact hQ
      | _ => first
        | (exfalso; cases hp.1; done)
        | (simp [Dw.wpT, wpE, wpA, wpI, wpO, wpSs, Dw.wpS, res, lookD, cmpR, ifD, truthD, backQ, backX, Dw.start, isiR, isTys, isTy, notR, bltR, lenOf, seqOf, okEq, okIn, plainD, plainDs, deepD, deepDs, eqD, eqDs, idxR, setDs, Dw.inR, slcV, newL, sameC, mthR, rcvOk, lstAt, resM, tgT, tgTs, Dw.augR, Dw.intD, updM_same, seqI, resI, binR, negR, anyM, flat_tup, flat_str, flat_int, flat_lst, flat_bl, flat_non, f_is_row, ixD]
           exact hQ)
  | _ => first
    | (exfalso; cases hp; done)
    | (simp [Dw.wpT, wpE, wpA, wpI, wpO, wpSs, Dw.wpS, res, lookD, cmpR, ifD, truthD, backQ, backX, Dw.start, isiR, isTys, isTy, notR, bltR, lenOf, seqOf, okEq, okIn, plainD, plainDs, deepD, deepDs, eqD, eqDs, idxR, setDs, Dw.inR, slcV, newL, sameC, mthR, rcvOk, lstAt, resM, tgT, tgTs, Dw.augR, Dw.intD, updM_same, seqI, resI, binR, negR, anyM, flat_tup, flat_str, flat_int, flat_lst, flat_bl, flat_non, f_is_row]
       exact hQ)
theorem inner_any {d : D} (hj : 4 ≤ j) (hp : plainD d = true) (hQ : Q (.tup [.tup (kidsD d).1, .bl (kidsD d).2]) M) : (callW pg j).run B.i_inner_types [d] M Qx Q := by
  obtain ⟨k, rfl⟩ : ∃ k, j = k + 1 := ⟨j - 1, by omega⟩
  rw [callW_run B.h_inner_types]
  refine ⟨rfl, rfl, ?_⟩
  cases d with
  | tup ds =>
    cases ds with
    | nil =>
      simp [Dw.wpT, wpE, wpA, wpI, wpO, wpSs, Dw.wpS, res, lookD, cmpR, ifD, truthD, backQ, backX, Dw.start, isiR, isTys, isTy, notR, bltR, lenOf, seqOf, okEq, okIn, plainD, plainDs, deepD, deepDs, eqD, eqDs, idxR, setDs, Dw.inR, slcV, newL, sameC, mthR, rcvOk, lstAt, resM, tgT, tgTs, Dw.augR, Dw.intD, updM_same, seqI, resI, binR, negR, anyM, flat_tup, flat_str, flat_int, flat_lst, flat_bl, flat_non, f_inner_types]
      exact hQ
    | cons h r =>
      obtain ⟨h1, h2⟩ := Bool.and_eq_true_iff.mp (show (plainD h && plainDs r) = true from hp)
      have ee : eqDs (h :: r) [] = false := rfl
      cases h with
      | str w =>
        by_cases e1 : w = w_int
        · subst e1
          simp [kidsD, ww] at hQ
          simp [Dw.wpT, wpE, wpA, wpI, wpO, wpSs, Dw.wpS, res, lookD, cmpR, ifD, truthD, backQ, backX, Dw.start, isiR, isTys, isTy, notR, bltR, lenOf, seqOf, okEq, okIn, plainD, plainDs, deepD, deepDs, eqD, eqDs, idxR, setDs, Dw.inR, slcV, newL, sameC, mthR, rcvOk, lstAt, resM, tgT, tgTs, Dw.augR, Dw.intD, updM_same, seqI, resI, binR, negR, anyM, flat_tup, flat_str, flat_int, flat_lst, flat_bl, flat_non, f_inner_types, ix_zero, h2, c_PLAIN, ww]
          exact hQ
        by_cases e2 : w = w_truth
        · subst e2
          simp [kidsD, e1] at hQ
          simp [Dw.wpT, wpE, wpA, wpI, wpO, wpSs, Dw.wpS, res, lookD, cmpR, ifD, truthD, backQ, backX, Dw.start, isiR, isTys, isTy, notR, bltR, lenOf, seqOf, okEq, okIn, plainD, plainDs, deepD, deepDs, eqD, eqDs, idxR, setDs, Dw.inR, slcV, newL, sameC, mthR, rcvOk, lstAt, resM, tgT, tgTs, Dw.augR, Dw.intD, updM_same, seqI, resI, binR, negR, anyM, flat_tup, flat_str, flat_int, flat_lst, flat_bl, flat_non, f_inner_types, ix_zero, h2, c_PLAIN, ww]
          exact hQ
        by_cases e3 : w = w_unit
        · subst e3
          simp [kidsD, e1, e2] at hQ
          simp [Dw.wpT, wpE, wpA, wpI, wpO, wpSs, Dw.wpS, res, lookD, cmpR, ifD, truthD, backQ, backX, Dw.start, isiR, isTys, isTy, notR, bltR, lenOf, seqOf, okEq, okIn, plainD, plainDs, deepD, deepDs, eqD, eqDs, idxR, setDs, Dw.inR, slcV, newL, sameC, mthR, rcvOk, lstAt, resM, tgT, tgTs, Dw.augR, Dw.intD, updM_same, seqI, resI, binR, negR, anyM, flat_tup, flat_str, flat_int, flat_lst, flat_bl, flat_non, f_inner_types, ix_zero, h2, c_PLAIN, ww]
          exact hQ
        by_cases e4 : w = w_pair
        · subst e4
          simp [kidsD, e1, e2, e3] at hQ
          simp [Dw.wpT, wpE, wpA, wpI, wpO, wpSs, Dw.wpS, res, lookD, cmpR, ifD, truthD, backQ, backX, Dw.start, isiR, isTys, isTy, notR, bltR, lenOf, seqOf, okEq, okIn, plainD, plainDs, deepD, deepDs, eqD, eqDs, idxR, setDs, Dw.inR, slcV, newL, sameC, mthR, rcvOk, lstAt, resM, tgT, tgTs, Dw.augR, Dw.intD, updM_same, seqI, resI, binR, negR, anyM, flat_tup, flat_str, flat_int, flat_lst, flat_bl, flat_non, f_inner_types, ix_zero, h2, c_PLAIN, ww, cut_one]
          exact hQ
        by_cases e5 : w = w_list
        · subst e5
          simp [kidsD, e1, e2, e3, e4] at hQ
          simp [Dw.wpT, wpE, wpA, wpI, wpO, wpSs, Dw.wpS, res, lookD, cmpR, ifD, truthD, backQ, backX, Dw.start, isiR, isTys, isTy, notR, bltR, lenOf, seqOf, okEq, okIn, plainD, plainDs, deepD, deepDs, eqD, eqDs, idxR, setDs, Dw.inR, slcV, newL, sameC, mthR, rcvOk, lstAt, resM, tgT, tgTs, Dw.augR, Dw.intD, updM_same, seqI, resI, binR, negR, anyM, flat_tup, flat_str, flat_int, flat_lst, flat_bl, flat_non, f_inner_types, ix_zero, h2, c_PLAIN, ww, cut_one]
          exact hQ
        by_cases e6 : w = w_fun
        · subst e6
          match r, h2, hQ with
          | [], h2, hQ =>
            simp [kidsD, e1, e2, e3, e4, e5] at hQ
            simp [Dw.wpT, wpE, wpA, wpI, wpO, wpSs, Dw.wpS, res, lookD, cmpR, ifD, truthD, backQ, backX, Dw.start, isiR, isTys, isTy, notR, bltR, lenOf, seqOf, okEq, okIn, plainD, plainDs, deepD, deepDs, eqD, eqDs, idxR, setDs, Dw.inR, slcV, newL, sameC, mthR, rcvOk, lstAt, resM, tgT, tgTs, Dw.augR, Dw.intD, updM_same, seqI, resI, binR, negR, anyM, flat_tup, flat_str, flat_int, flat_lst, flat_bl, flat_non, f_inner_types, ix_zero, h2, c_PLAIN, ww]
            exact hQ
          | [a], h2, hQ =>
            simp [kidsD, e1, e2, e3, e4, e5] at hQ
            simp [plainDs] at h2
            simp [Dw.wpT, wpE, wpA, wpI, wpO, wpSs, Dw.wpS, res, lookD, cmpR, ifD, truthD, backQ, backX, Dw.start, isiR, isTys, isTy, notR, bltR, lenOf, seqOf, okEq, okIn, plainD, plainDs, deepD, deepDs, eqD, eqDs, idxR, setDs, Dw.inR, slcV, newL, sameC, mthR, rcvOk, lstAt, resM, tgT, tgTs, Dw.augR, Dw.intD, updM_same, seqI, resI, binR, negR, anyM, flat_tup, flat_str, flat_int, flat_lst, flat_bl, flat_non, f_inner_types, ix_zero, h2, c_PLAIN, ww]
            exact hQ
          | [a, b], h2, hQ =>
            simp [kidsD, e1, e2, e3, e4, e5] at hQ
            simp [plainDs] at h2
            simp [Dw.wpT, wpE, wpA, wpI, wpO, wpSs, Dw.wpS, res, lookD, cmpR, ifD, truthD, backQ, backX, Dw.start, isiR, isTys, isTy, notR, bltR, lenOf, seqOf, okEq, okIn, plainD, plainDs, deepD, deepDs, eqD, eqDs, idxR, setDs, Dw.inR, slcV, newL, sameC, mthR, rcvOk, lstAt, resM, tgT, tgTs, Dw.augR, Dw.intD, updM_same, seqI, resI, binR, negR, anyM, flat_tup, flat_str, flat_int, flat_lst, flat_bl, flat_non, f_inner_types, ix_zero, h2, c_PLAIN, ww]
            exact hQ
          | [a, row, b], h2, hQ =>
            simp [kidsD, e1, e2, e3, e4, e5] at hQ
            simp [plainDs] at h2
            simp [Dw.wpT, wpE, wpA, wpI, wpO, wpSs, Dw.wpS, res, lookD, cmpR, ifD, truthD, backQ, backX, Dw.start, isiR, isTys, isTy, notR, bltR, lenOf, seqOf, okEq, okIn, plainD, plainDs, deepD, deepDs, eqD, eqDs, idxR, setDs, Dw.inR, slcV, newL, sameC, mthR, rcvOk, lstAt, resM, tgT, tgTs, Dw.augR, Dw.intD, updM_same, seqI, resI, binR, negR, anyM, flat_tup, flat_str, flat_int, flat_lst, flat_bl, flat_non, f_inner_types, ixD, h2, c_PLAIN, ww]
            exact row_any B (by omega) h2.2.1 hQ
          | a :: b :: c :: e :: r, h2, hQ =>
            simp [kidsD, e1, e2, e3, e4, e5] at hQ
            simp [plainDs] at h2
            simp [Dw.wpT, wpE, wpA, wpI, wpO, wpSs, Dw.wpS, res, lookD, cmpR, ifD, truthD, backQ, backX, Dw.start, isiR, isTys, isTy, notR, bltR, lenOf, seqOf, okEq, okIn, plainD, plainDs, deepD, deepDs, eqD, eqDs, idxR, setDs, Dw.inR, slcV, newL, sameC, mthR, rcvOk, lstAt, resM, tgT, tgTs, Dw.augR, Dw.intD, updM_same, seqI, resI, binR, negR, anyM, flat_tup, flat_str, flat_int, flat_lst, flat_bl, flat_non, f_inner_types, ix_zero, h2, c_PLAIN, ww, len_e4]
            exact hQ
        by_cases e7 : w = w_own
        · subst e7
          match r, h2, hQ with
          | [], h2, hQ =>
            simp [kidsD, e1, e2, e3, e4, e5, e6] at hQ
            simp [Dw.wpT, wpE, wpA, wpI, wpO, wpSs, Dw.wpS, res, lookD, cmpR, ifD, truthD, backQ, backX, Dw.start, isiR, isTys, isTy, notR, bltR, lenOf, seqOf, okEq, okIn, plainD, plainDs, deepD, deepDs, eqD, eqDs, idxR, setDs, Dw.inR, slcV, newL, sameC, mthR, rcvOk, lstAt, resM, tgT, tgTs, Dw.augR, Dw.intD, updM_same, seqI, resI, binR, negR, anyM, flat_tup, flat_str, flat_int, flat_lst, flat_bl, flat_non, f_inner_types, ix_zero, h2, c_PLAIN, ww]
            exact hQ
          | [a], h2, hQ =>
            simp [kidsD, e1, e2, e3, e4, e5, e6] at hQ
            simp [plainDs] at h2
            simp [Dw.wpT, wpE, wpA, wpI, wpO, wpSs, Dw.wpS, res, lookD, cmpR, ifD, truthD, backQ, backX, Dw.start, isiR, isTys, isTy, notR, bltR, lenOf, seqOf, okEq, okIn, plainD, plainDs, deepD, deepDs, eqD, eqDs, idxR, setDs, Dw.inR, slcV, newL, sameC, mthR, rcvOk, lstAt, resM, tgT, tgTs, Dw.augR, Dw.intD, updM_same, seqI, resI, binR, negR, anyM, flat_tup, flat_str, flat_int, flat_lst, flat_bl, flat_non, f_inner_types, ix_zero, h2, c_PLAIN, ww]
            exact hQ
          | [a, b], h2, hQ =>
            simp [kidsD, e1, e2, e3, e4, e5, e6] at hQ
            simp [plainDs] at h2
            simp [Dw.wpT, wpE, wpA, wpI, wpO, wpSs, Dw.wpS, res, lookD, cmpR, ifD, truthD, backQ, backX, Dw.start, isiR, isTys, isTy, notR, bltR, lenOf, seqOf, okEq, okIn, plainD, plainDs, deepD, deepDs, eqD, eqDs, idxR, setDs, Dw.inR, slcV, newL, sameC, mthR, rcvOk, lstAt, resM, tgT, tgTs, Dw.augR, Dw.intD, updM_same, seqI, resI, binR, negR, anyM, flat_tup, flat_str, flat_int, flat_lst, flat_bl, flat_non, f_inner_types, ixD, h2, c_PLAIN, ww]
            refine name_any B (by omega) h2.1 ?_
            cases hn : nameD a with
            | false =>
              rw [hn] at hQ
              simpa using hQ
            | true =>
              rw [hn] at hQ
              simp
              refine name_any B (by omega) h2.2 ?_
              simpa using hQ
          | a :: b :: c :: r, h2, hQ =>
            simp [kidsD, e1, e2, e3, e4, e5, e6] at hQ
            simp [plainDs] at h2
            simp [Dw.wpT, wpE, wpA, wpI, wpO, wpSs, Dw.wpS, res, lookD, cmpR, ifD, truthD, backQ, backX, Dw.start, isiR, isTys, isTy, notR, bltR, lenOf, seqOf, okEq, okIn, plainD, plainDs, deepD, deepDs, eqD, eqDs, idxR, setDs, Dw.inR, slcV, newL, sameC, mthR, rcvOk, lstAt, resM, tgT, tgTs, Dw.augR, Dw.intD, updM_same, seqI, resI, binR, negR, anyM, flat_tup, flat_str, flat_int, flat_lst, flat_bl, flat_non, f_inner_types, ix_zero, h2, c_PLAIN, ww, len_e3]
            exact hQ
        have n1 : (w == w_pair) = false := by simpa using e4
        have n2 : (w == w_list) = false := by simpa using e5
        have n3 : (w == w_fun) = false := by simpa using e6
        have n4 : (w == w_own) = false := by simpa using e7
        have n5 : (w_int == w) = false := by simpa using fun z : w_int = w => e1 z.symm
        have n6 : (w_truth == w) = false := by simpa using fun z : w_truth = w => e2 z.symm
        have n7 : (w_unit == w) = false := by simpa using fun z : w_unit = w => e3 z.symm
        by_cases e8 : w = w_var
        · subst e8
          match r, h2, hQ with
          | [], h2, hQ =>
            simp [kidsD, e1, e2, e3, e4, e5, e6, e7] at hQ
            simp [Dw.wpT, wpE, wpA, wpI, wpO, wpSs, Dw.wpS, res, lookD, cmpR, ifD, truthD, backQ, backX, Dw.start, isiR, isTys, isTy, notR, bltR, lenOf, seqOf, okEq, okIn, plainD, plainDs, deepD, deepDs, eqD, eqDs, idxR, setDs, Dw.inR, slcV, newL, sameC, mthR, rcvOk, lstAt, resM, tgT, tgTs, Dw.augR, Dw.intD, updM_same, seqI, resI, binR, negR, anyM, flat_tup, flat_str, flat_int, flat_lst, flat_bl, flat_non, f_inner_types, ix_zero, h2, c_PLAIN, ww]
            exact hQ
          | [a], h2, hQ =>
            simp [kidsD, e1, e2, e3, e4, e5, e6, e7] at hQ
            simp [plainDs] at h2
            simp [Dw.wpT, wpE, wpA, wpI, wpO, wpSs, Dw.wpS, res, lookD, cmpR, ifD, truthD, backQ, backX, Dw.start, isiR, isTys, isTy, notR, bltR, lenOf, seqOf, okEq, okIn, plainD, plainDs, deepD, deepDs, eqD, eqDs, idxR, setDs, Dw.inR, slcV, newL, sameC, mthR, rcvOk, lstAt, resM, tgT, tgTs, Dw.augR, Dw.intD, updM_same, seqI, resI, binR, negR, anyM, flat_tup, flat_str, flat_int, flat_lst, flat_bl, flat_non, f_inner_types, ixD, h2, c_PLAIN, ww, c_MOST_VARIABLES]
            exact index_any B (by omega) h2 hQ
          | a :: b :: r, h2, hQ =>
            simp [kidsD, e1, e2, e3, e4, e5, e6, e7] at hQ
            simp [plainDs] at h2
            simp [Dw.wpT, wpE, wpA, wpI, wpO, wpSs, Dw.wpS, res, lookD, cmpR, ifD, truthD, backQ, backX, Dw.start, isiR, isTys, isTy, notR, bltR, lenOf, seqOf, okEq, okIn, plainD, plainDs, deepD, deepDs, eqD, eqDs, idxR, setDs, Dw.inR, slcV, newL, sameC, mthR, rcvOk, lstAt, resM, tgT, tgTs, Dw.augR, Dw.intD, updM_same, seqI, resI, binR, negR, anyM, flat_tup, flat_str, flat_int, flat_lst, flat_bl, flat_non, f_inner_types, ix_zero, h2, c_PLAIN, ww, len_e2]
            exact hQ
        · have n8 : (w == w_var) = false := by simpa using e8
          simp [kidsD, e1, e2, e3, e4, e5, e6, e7, e8] at hQ
          simp [Dw.wpT, wpE, wpA, wpI, wpO, wpSs, Dw.wpS, res, lookD, cmpR, ifD, truthD, backQ, backX, Dw.start, isiR, isTys, isTy, notR, bltR, lenOf, seqOf, okEq, okIn, plainD, plainDs, deepD, deepDs, eqD, eqDs, idxR, setDs, Dw.inR, slcV, newL, sameC, mthR, rcvOk, lstAt, resM, tgT, tgTs, Dw.augR, Dw.intD, updM_same, seqI, resI, binR, negR, anyM, flat_tup, flat_str, flat_int, flat_lst, flat_bl, flat_non, f_inner_types, ix_zero, h2, c_PLAIN, n1, n2, n3, n4, n5, n6, n7, n8]
          exact hQ
      | _ => first
        | (exfalso; cases h1; done)
        | (simp [kidsD] at hQ
           simp [Dw.wpT, wpE, wpA, wpI, wpO, wpSs, Dw.wpS, res, lookD, cmpR, ifD, truthD, backQ, backX, Dw.start, isiR, isTys, isTy, notR, bltR, lenOf, seqOf, okEq, okIn, plainD, plainDs, deepD, deepDs, eqD, eqDs, idxR, setDs, Dw.inR, slcV, newL, sameC, mthR, rcvOk, lstAt, resM, tgT, tgTs, Dw.augR, Dw.intD, updM_same, seqI, resI, binR, negR, anyM, flat_tup, flat_str, flat_int, flat_lst, flat_bl, flat_non, f_inner_types, ix_zero, h1, h2]
           first | exact hQ | exact ⟨h1, hQ⟩)
  | _ => first
    | (exfalso; cases hp; done)
    | (simp [Dw.wpT, wpE, wpA, wpI, wpO, wpSs, Dw.wpS, res, lookD, cmpR, ifD, truthD, backQ, backX, Dw.start, isiR, isTys, isTy, notR, bltR, lenOf, seqOf, okEq, okIn, plainD, plainDs, deepD, deepDs, eqD, eqDs, idxR, setDs, Dw.inR, slcV, newL, sameC, mthR, rcvOk, lstAt, resM, tgT, tgTs, Dw.augR, Dw.intD, updM_same, seqI, resI, binR, negR, anyM, flat_tup, flat_str, flat_int, flat_lst, flat_bl, flat_non, f_inner_types]
       exact hQ)
end
end LL
set_option Elab.async false
set_option linter.all false
set_option maxRecDepth 100000
set_option maxHeartbeats 4000000
/-! DwL4: is_type of any plain data. -/
namespace LL
open PySem PySem.Spec PyProof.Rows L2 Dw
mutual
def sz : D → Nat
  | .tup xs => szs xs + 1
  | .lst xs => szs xs + 1
  | _ => 1
def szs : List D → Nat
  | [] => 0
  | x :: xs => sz x + szs xs
end
theorem sz_pos (v : D) : 0 < sz v := by cases v <;> simp [sz]
theorem szs_len (xs : List D) : xs.length ≤ szs xs := by
  induction xs with
  | nil => exact Nat.zero_le _
  | cons x xs ih =>
    have := sz_pos x
    simp only [List.length_cons, szs]
    omega
theorem szs_app (x y : List D) : szs (x ++ y) = szs x + szs y := by
  induction x with
  | nil => simp [szs]
  | cons a x ih => simp only [List.cons_append, szs, ih]; omega
def hgt : Option (Nat × Nat) → Nat
  | some (h, _) => h
  | none => 0
def cnt : Option (Nat × Nat) → Nat
  | some (_, c) => c
  | none => 0
def maxN : List Nat → Nat
  | [] => 0
  | x :: xs => max x (maxN xs)
/-- the whole of its parts -/
def comb (rs : List (Option (Nat × Nat))) : Option (Nat × Nat) := if rs.all Option.isSome = true then some (1 + maxN (rs.map hgt), 1 + (rs.map cnt).sum) else none
def kidsR (xs : List D) (rs : List (Option (Nat × Nat))) : List (Option (Nat × Nat)) := match xs, rs with
  | .str w :: _, _ :: rs => if w = w_pair then rs else if w = w_list then rs else if w = w_fun then (match rs with
    | [a, _, b] => [a, b]
    | _ => []) else []
  | _, _ => []
def deepC (xs : List D) (rs : List (Option (Nat × Nat))) : Option (Nat × Nat) := if (kidsD (.tup xs)).2 = true then comb (kidsR xs rs) else none
mutual
/-- how deep a type is, how many parts it has -/
def deepO : D → Option (Nat × Nat)
  | .tup xs => deepC xs (deepL xs)
  | _ => none
def deepL : List D → List (Option (Nat × Nat))
  | [] => []
  | x :: xs => deepO x :: deepL xs
end
theorem deepL_map (xs : List D) : deepL xs = xs.map deepO := by
  induction xs with
  | nil => rfl
  | cons x xs ih => simp only [deepL, List.map_cons, ih]
theorem pl_ne : w_int ≠ w_pair ∧ w_int ≠ w_list ∧ w_int ≠ w_fun ∧ w_truth ≠ w_pair ∧ w_truth ≠ w_list ∧ w_truth ≠ w_fun ∧ w_unit ≠ w_pair ∧ w_unit ≠ w_list ∧ w_unit ≠ w_fun ∧ w_own ≠ w_pair ∧ w_own ≠ w_list ∧ w_own ≠ w_fun ∧ w_var ≠ w_pair ∧ w_var ≠ w_list ∧ w_var ≠ w_fun ∧ w_list ≠ w_pair ∧ w_fun ≠ w_pair ∧ w_fun ≠ w_list := by decide
theorem deepO_eq (d : D) : deepO d = if (kidsD d).2 = true then comb ((kidsD d).1.map deepO) else none := by
  cases d with
  | tup xs =>
    simp only [deepO, deepC, deepL_map]
    cases hk : (kidsD (.tup xs)).2 with
    | false => rfl
    | true =>
      simp only [if_true]
      congr 1
      match xs, hk with
      | .str w :: r, hk =>
        unfold kidsD at hk ⊢
        simp only [kidsR, List.map_cons]
        obtain ⟨n1, n2, n3, n4, n5, n6, n7, n8, n9, n10, n11, n12, n13, n14, n15, n16, n17, n18⟩ := pl_ne
        by_cases e1 : w = w_int
        · subst e1; simp [n1, n2, n3]
        by_cases e2 : w = w_truth
        · subst e2; simp [e1, n4, n5, n6]
        by_cases e3 : w = w_unit
        · subst e3; simp [e1, e2, n7, n8, n9]
        by_cases e4 : w = w_pair
        · subst e4; simp [e1, e2, e3]
        by_cases e5 : w = w_list
        · subst e5; simp [e1, e2, e3, e4]
        by_cases e6 : w = w_fun
        · subst e6
          simp [e1, e2, e3, e4, e5] at hk ⊢
          match r, hk with
          | [], hk => simp at hk
          | [_], hk => simp at hk
          | [_, _], hk => simp at hk
          | [a, row, b], hk => simp
          | _ :: _ :: _ :: _ :: _, hk => simp at hk
        simp [e1, e2, e3, e4, e5, e6]
        repeat' split
        all_goals first
          | rfl
          | simp
      | [], hk => simp [kidsD] at hk
      | .non :: _, hk => simp [kidsD] at hk
      | .bl _ :: _, hk => simp [kidsD] at hk
      | .int _ :: _, hk => simp [kidsD] at hk
      | .tup _ :: _, hk => simp [kidsD] at hk
      | .lst _ :: _, hk => simp [kidsD] at hk
      | .ref _ :: _, hk => simp [kidsD] at hk
      | .glo _ :: _, hk => simp [kidsD] at hk
      | .scr _ :: _, hk => simp [kidsD] at hk
      | .fnv .. :: _, hk => simp [kidsD] at hk
  | _ => rfl
theorem kids_sub (d : D) : szs (kidsD d).1 < sz d ∧ (plainD d = true → ∀ k ∈ (kidsD d).1, plainD k = true) := by
  unfold kidsD
  split
  · rename_i w r
    have hs : szs r < sz (.tup (.str w :: r)) := by simp only [sz, szs]; omega
    have hp : plainD (.tup (.str w :: r)) = true → ∀ k ∈ r, plainD k = true := fun h k hk => plain_mem (us := r) (by simpa [plainD, plainDs] using h) k hk
    have hn : szs [] < sz (.tup (.str w :: r)) := by simp only [sz, szs]; omega
    repeat' split
    all_goals first
      | exact ⟨hs, hp⟩
      | exact ⟨hn, fun _ _ z => nomatch z⟩
      | skip
    rename_i a row b
    refine ⟨by simp only [sz, szs] at *; omega, fun h k hk => hp h k ?_⟩
    simp only [List.mem_cons, List.not_mem_nil, or_false] at hk ⊢
    rcases hk with rfl | rfl
    · exact .inl rfl
    · exact .inr (.inr rfl)
  · exact ⟨by simp only [szs]; exact sz_pos d, fun _ _ z => nomatch z⟩
/-- it is a type: at most 24 deep, of at most 2,000 parts -/
def typeB (d : D) : Bool := match deepO d with
  | some (h, c) => decide (h ≤ 24) && decide (c ≤ 2000)
  | none => false
def okP (q : D × Nat) : Bool := match deepO q.1 with
  | some (h, _) => decide (q.2 + h ≤ 25)
  | none => false
def cnts : List (D × Nat) → Nat
  | [] => 0
  | q :: qs => cnt (deepO q.1) + cnts qs
theorem cnts_add (x y : List (D × Nat)) : cnts (x ++ y) = cnts x + cnts y := by
  induction x with
  | nil => simp [cnts]
  | cons a x ih => simp only [List.cons_append, cnts, ih]; omega
theorem cnts_kids (ks : List D) (n : Nat) : cnts (ks.map fun k => (k, n)) = ((ks.map deepO).map cnt).sum := by
  induction ks with
  | nil => rfl
  | cons k ks ih => simp only [List.map_cons, cnts, List.sum_cons, ih]
theorem max_le {xs : List Nat} {n : Nat} : maxN xs ≤ n ↔ ∀ x ∈ xs, x ≤ n := by
  induction xs with
  | nil => simp [maxN]
  | cons x xs ih => simp only [maxN, List.mem_cons, forall_eq_or_imp, ← ih]; omega
/-- opening one keeps the answer -/
theorem open_ok {v : D} {n : Nat} (hr : (kidsD v).2 = true) (hn : n ≤ 24) (p : Nat) (qs : List (D × Nat)) :
    ((qs ++ (kidsD v).1.map fun k => (k, n + 1)).all okP && decide (p + 1 + cnts (qs ++ (kidsD v).1.map fun k => (k, n + 1)) ≤ 2000)) = ((qs ++ [(v, n)]).all okP && decide (p + cnts (qs ++ [(v, n)]) ≤ 2000)) := by
  have e := deepO_eq v
  rw [if_pos hr] at e
  rw [cnts_add, cnts_add, cnts_kids, List.all_append, List.all_append]
  have c1 : cnts [(v, n)] = cnt (deepO v) := by simp [cnts]
  rw [c1, e]
  unfold comb
  by_cases ha : ((kidsD v).1.map deepO).all Option.isSome = true
  · rw [if_pos ha]
    have h1 : ((kidsD v).1.map fun k => (k, n + 1)).all okP = decide (n + 1 + maxN (((kidsD v).1.map deepO).map hgt) ≤ 25) := by
      rw [Bool.eq_iff_iff, decide_eq_true_eq, List.all_eq_true]
      have hm : n + 1 + maxN (((kidsD v).1.map deepO).map hgt) ≤ 25 ↔ maxN (((kidsD v).1.map deepO).map hgt) ≤ 24 - n := by omega
      rw [hm, max_le]
      constructor
      · intro h x hx
        rw [List.map_map] at hx
        obtain ⟨k, hk, rfl⟩ := List.mem_map.mp hx
        have := h (k, n + 1) (List.mem_map.mpr ⟨k, hk, rfl⟩)
        simp only [okP] at this
        show hgt (deepO k) ≤ _
        cases hd : deepO k with
        | none => simp [hgt]
        | some hc =>
          rw [hd] at this
          simp only [decide_eq_true_eq] at this
          show hc.1 ≤ _
          omega
      · intro h q hq
        obtain ⟨k, hk, rfl⟩ := List.mem_map.mp hq
        have hs := List.all_eq_true.mp ha (deepO k) (List.mem_map.mpr ⟨k, hk, rfl⟩)
        have hx := h (hgt (deepO k)) (List.mem_map.mpr ⟨deepO k, List.mem_map.mpr ⟨k, hk, rfl⟩, rfl⟩)
        simp only [okP]
        cases hd : deepO k with
        | none => rw [hd] at hs; cases hs
        | some hc =>
          rw [hd] at hx
          simp only [decide_eq_true_eq]
          have hx : hc.1 ≤ 24 - n := hx
          omega
    have h2 : [(v, n)].all okP = decide (n + (1 + maxN (((kidsD v).1.map deepO).map hgt)) ≤ 25) := by
      have e2 : deepO v = some (1 + maxN (((kidsD v).1.map deepO).map hgt), 1 + (((kidsD v).1.map deepO).map cnt).sum) := by
        rw [e]
        unfold comb
        rw [if_pos ha]
      simp only [List.all_cons, List.all_nil, Bool.and_true, okP, e2]
    rw [h1, h2]
    have e3 : decide (n + 1 + maxN (((kidsD v).1.map deepO).map hgt) ≤ 25) = decide (n + (1 + maxN (((kidsD v).1.map deepO).map hgt)) ≤ 25) := by
      rw [Nat.add_assoc]
    rw [e3]
    congr 1
    show decide (p + 1 + (cnts qs + (((kidsD v).1.map deepO).map cnt).sum) ≤ 2000) = decide (p + (cnts qs + (1 + (((kidsD v).1.map deepO).map cnt).sum)) ≤ 2000)
    exact decide_eq_decide.mpr (by omega)
  · have h1 : ((kidsD v).1.map fun k => (k, n + 1)).all okP = false := by
      rw [Bool.eq_false_iff]
      intro h
      apply ha
      rw [List.all_eq_true] at h ⊢
      intro o ho
      obtain ⟨k, hk, rfl⟩ := List.mem_map.mp ho
      have := h (k, n + 1) (List.mem_map.mpr ⟨k, hk, rfl⟩)
      simp only [okP] at this
      cases hd : deepO k with
      | none => rw [hd] at this; cases this
      | some _ => rfl
    have h2 : [(v, n)].all okP = false := by
      have e2 : deepO v = none := by
        rw [e]
        unfold comb
        rw [if_neg ha]
      simp [okP, e2]
    rw [h1, h2]
    simp
end LL
set_option Elab.async false
set_option linter.all false
set_option maxRecDepth 100000
set_option maxHeartbeats 4000000
/-! DwL5: is_type, checked_type of any plain data; what is drawn: names, labels, rows. -/
namespace LL
open PySem PySem.Spec PyProof.Rows L2 Dw
def pairN (q : D × Nat) : D := .tup [q.1, .int q.2]
def szq : List (D × Nat) → Nat
  | [] => 0
  | q :: qs => sz q.1 + szq qs
theorem szq_add (x y : List (D × Nat)) : szq (x ++ y) = szq x + szq y := by
  induction x with
  | nil => simp [szq]
  | cons a x ih => simp only [List.cons_append, szq, ih]; omega
theorem szq_kids (ks : List D) (n : Nat) : szq (ks.map fun k => (k, n)) = szs ks := by
  induction ks with
  | nil => rfl
  | cons k ks ih => simp only [List.map_cons, szq, szs, ih]
theorem szq_len (ps : List (D × Nat)) : ps.length ≤ szq ps := by
  induction ps with
  | nil => exact Nat.zero_le _
  | cons p ps ih =>
    have := sz_pos p.1
    simp only [List.length_cons, szq]
    omega
theorem plain_pn {ps : List (D × Nat)} (h : ∀ q ∈ ps, plainD q.1 = true) : plainDs (ps.map pairN) = true := by
  induction ps with
  | nil => rfl
  | cons p ps ih =>
    simp only [List.map_cons, plainDs, Bool.and_eq_true]
    exact ⟨by simp [pairN, plainD, plainDs, h p (by simp)], ih fun q hq => h q (List.mem_cons_of_mem _ hq)⟩
theorem hgt_pos {d : D} {h c : Nat} (e : deepO d = some (h, c)) : 1 ≤ h ∧ 1 ≤ c := by
  rw [deepO_eq] at e
  unfold comb at e
  split at e
  · split at e
    · simp only [Option.some.injEq, Prod.mk.injEq] at e
      omega
    · cases e
  · cases e
theorem start_ok (v : D) : ([(v, 1)].all okP && decide (0 + cnts [(v, 1)] ≤ 2000)) = typeB v := by
  have h : deepO v = none ∨ ∃ q, deepO v = some q := by
    cases deepO v with
    | none => exact .inl rfl
    | some q => exact .inr ⟨q, rfl⟩
  rcases h with h | ⟨⟨d, c⟩, h⟩
  · simp [okP, typeB, cnts, h]
  · simp [okP, typeB, cnts, cnt, h]
    congr 1
    exact decide_eq_decide.mpr (by omega)
section
variable {pg : Pg} (B : Base pg) {j : Nat} {M : DM} {Qx : QX} {Q : QD}
include B
theorem type_any {v : D} (hj : 5 ≤ j) (hp : plainD v = true) (hs : sz v ≤ 1000000) (hQ : Q (.bl (typeB v)) M) : (callW pg j).run B.i_is_type [v] M Qx Q := by
  obtain ⟨k, rfl⟩ : ∃ k, j = k + 1 := ⟨j - 1, by omega⟩
  rw [callW_run B.h_is_type]
  refine ⟨rfl, rfl, ?_⟩
  simp [Dw.wpT, wpE, wpA, wpI, wpO, wpSs, Dw.wpS, res, lookD, cmpR, ifD, truthD, backQ, backX, Dw.start, isiR, isTys, isTy, notR, bltR, lenOf, seqOf, okEq, okIn, plainD, plainDs, deepD, deepDs, eqD, eqDs, idxR, setDs, Dw.inR, slcV, newL, sameC, mthR, rcvOk, lstAt, resM, tgT, tgTs, Dw.augR, Dw.intD, updM_same, seqI, resI, binR, negR, anyM, flat_tup, flat_str, flat_int, flat_lst, flat_bl, flat_non, f_is_type]
  intro a ha
  refine ⟨fun m δ M1 => ∃ ps p e3 e4 e5 e6 e7, δ = [some v, some (.ref a), some (.int ((p : Nat) : Int)), e3, e4, e5, e6, e7] ∧ M1 a = some (.lst (ps.map pairN)) ∧ Kept M M1 ∧ (∀ q ∈ ps, plainD q.1 = true) ∧ (ps.all okP && decide (p + cnts ps ≤ 2000)) = typeB v ∧ m = szq ps ∧ m ≤ 1000000 ∧ p ≤ 2000, ?_, ?_⟩
  · refine ⟨sz v, [(v, 1)], 0, none, none, none, none, none, rfl, updM_same, ?_, ?_, ?_, ?_, hs, by omega⟩
    · intro b mo hb
      rw [updM_ne (fun e => by subst e; rw [ha] at hb; cases hb)]
      exact hb
    · simpa using hp
    · exact start_ok v
    · simp [szq]
  · rintro m δ M1 ⟨ps, p, e3, e4, e5, e6, e7, rfl, hM, hk, hpl, hans, hm, hm1, hp1⟩
    have hf : flatR M1 (.ref a) = .lst (ps.map pairN) := by simp [flatR, hM]
    have pp := plain_pn hpl
    rcases List.eq_nil_or_concat ps with rfl | ⟨qs, q, rfl⟩
    · have ht : typeB v = true := by rw [← hans]; simp [cnts, hp1]
      rw [ht] at hQ
      simp [Dw.wpT, wpE, wpA, wpI, wpO, wpSs, Dw.wpS, res, lookD, cmpR, ifD, truthD, backQ, backX, Dw.start, isiR, isTys, isTy, notR, bltR, lenOf, seqOf, okEq, okIn, plainD, plainDs, deepD, deepDs, eqD, eqDs, idxR, setDs, Dw.inR, slcV, newL, sameC, mthR, rcvOk, lstAt, resM, tgT, tgTs, Dw.augR, Dw.intD, updM_same, seqI, resI, binR, negR, anyM, flat_tup, flat_str, flat_int, flat_lst, flat_bl, flat_non, hf]
      exact ⟨hk, hQ⟩
    · rw [List.concat_eq_append] at hM hf hpl hm pp hans
      have e0 : eqDs ((qs ++ [q]).map pairN) [] = false := by cases qs <;> rfl
      simp [Dw.wpT, wpE, wpA, wpI, wpO, wpSs, Dw.wpS, res, lookD, cmpR, ifD, truthD, backQ, backX, Dw.start, isiR, isTys, isTy, notR, bltR, lenOf, seqOf, okEq, okIn, plainD, plainDs, deepD, deepDs, eqD, eqDs, idxR, setDs, Dw.inR, slcV, newL, sameC, mthR, rcvOk, lstAt, resM, tgT, tgTs, Dw.augR, Dw.intD, updM_same, seqI, resI, binR, negR, anyM, flat_tup, flat_str, flat_int, flat_lst, flat_bl, flat_non, hf, e0, pp, hM, pairN]
      refine ⟨by simpa [pairN] using pp, ?_⟩
      have hkp : ∀ X, Kept M (updM M1 a X) := fun X b mo hb => by
        rw [updM_ne (fun e => by subst e; rw [ha] at hb; cases hb)]
        exact hk b mo hb
      have hsub := kids_sub q.1
      have hm2 : m = szq qs + sz q.1 := by rw [hm, szq_add]; simp [szq]
      have hqp := hpl q (by simp)
      refine inner_any B (by omega) hqp ?_
      have stop : ((kidsD q.1).2 = false ∨ 24 < q.2 ∨ 2000 < p + 1) → typeB v = false := by
        intro h
        rw [← hans, List.all_append]
        rcases h with h | h | h
        · have : okP q = false := by
            have e := deepO_eq q.1
            rw [h] at e
            simp [okP, e]
          simp [this]
        · have : okP q = false := by
            cases hd : deepO q.1 with
            | none => simp [okP, hd]
            | some hc =>
              have := hgt_pos hd
              simp only [okP, hd]
              exact decide_eq_false (by omega)
          simp [this]
        · cases hd : deepO q.1 with
          | none =>
            have : okP q = false := by simp [okP, hd]
            simp [this]
          | some hc =>
            have h1 := hgt_pos hd
            have h2 : cnts (qs ++ [q]) ≥ 1 := by
              rw [cnts_add]
              simp only [cnts, hd, cnt]
              omega
            have : decide (p + cnts (qs ++ [q]) ≤ 2000) = false := decide_eq_false (by omega)
            simp [this]
      cases hr : (kidsD q.1).2 with
      | false =>
        rw [stop (.inl hr)] at hQ
        simp [Dw.wpT, wpE, wpA, wpI, wpO, wpSs, Dw.wpS, res, lookD, cmpR, ifD, truthD, backQ, backX, Dw.start, isiR, isTys, isTy, notR, bltR, lenOf, seqOf, okEq, okIn, plainD, plainDs, deepD, deepDs, eqD, eqDs, idxR, setDs, Dw.inR, slcV, newL, sameC, mthR, rcvOk, lstAt, resM, tgT, tgTs, Dw.augR, Dw.intD, updM_same, seqI, resI, binR, negR, anyM, flat_tup, flat_str, flat_int, flat_lst, flat_bl, flat_non, c_MOST_DEEP, c_MOST_PARTS]
        exact ⟨hkp _, hQ⟩
      | true =>
        simp [Dw.wpT, wpE, wpA, wpI, wpO, wpSs, Dw.wpS, res, lookD, cmpR, ifD, truthD, backQ, backX, Dw.start, isiR, isTys, isTy, notR, bltR, lenOf, seqOf, okEq, okIn, plainD, plainDs, deepD, deepDs, eqD, eqDs, idxR, setDs, Dw.inR, slcV, newL, sameC, mthR, rcvOk, lstAt, resM, tgT, tgTs, Dw.augR, Dw.intD, updM_same, seqI, resI, binR, negR, anyM, flat_tup, flat_str, flat_int, flat_lst, flat_bl, flat_non, c_MOST_DEEP, c_MOST_PARTS]
        by_cases c1 : (24 : Int) < q.2
        · rw [stop (.inr (.inl (by omega)))] at hQ
          simp [c1]
          exact ⟨hkp _, hQ⟩
        by_cases c2 : (2000 : Int) < (p : Int) + 1
        · rw [stop (.inr (.inr (by omega)))] at hQ
          simp [c1, c2]
          exact ⟨hkp _, hQ⟩
        simp [c1, c2]
        refine lc_mem (M := updM M1 a (.lst (qs.map pairN))) (f := fun e => .tup [e, .int ((q.2 : Int) + 1)]) ?_ _ _ (fun e he R hR => ?_) ?_
        · trivial
        · simp [Dw.wpT, wpE, wpA, wpI, wpO, wpSs, Dw.wpS, res, lookD, cmpR, ifD, truthD, backQ, backX, Dw.start, isiR, isTys, isTy, notR, bltR, lenOf, seqOf, okEq, okIn, plainD, plainDs, deepD, deepDs, eqD, eqDs, idxR, setDs, Dw.inR, slcV, newL, sameC, mthR, rcvOk, lstAt, resM, tgT, tgTs, Dw.augR, Dw.intD, updM_same, seqI, resI, binR, negR, anyM, flat_tup, flat_str, flat_int, flat_lst, flat_bl, flat_non, wipeD]
          exact hR
        · have hl := szq_len qs
          have hl2 := szs_len (kidsD q.1).1
          try simp [Dw.wpT, wpE, wpA, wpI, wpO, wpSs, Dw.wpS, res, lookD, cmpR, ifD, truthD, backQ, backX, Dw.start, isiR, isTys, isTy, notR, bltR, lenOf, seqOf, okEq, okIn, plainD, plainDs, deepD, deepDs, eqD, eqDs, idxR, setDs, Dw.inR, slcV, newL, sameC, mthR, rcvOk, lstAt, resM, tgT, tgTs, Dw.augR, Dw.intD, updM_same, seqI, resI, binR, negR, anyM, flat_tup, flat_str, flat_int, flat_lst, flat_bl, flat_non]
          refine ⟨by unfold sizeLine; omega, ?_⟩
          refine ⟨szq (qs ++ (kidsD q.1).1.map fun k => (k, q.2 + 1)), by rw [szq_add, szq_kids]; omega, qs ++ (kidsD q.1).1.map fun k => (k, q.2 + 1), p + 1, by simp, ?_, fun b mo hb => ?_, ?_, ?_, rfl, by rw [szq_add, szq_kids]; omega, by omega⟩
          · simp [pairN, Function.comp_def]
          · rw [updM_ne (fun e => by subst e; rw [ha] at hb; cases hb)]
            exact hkp _ b mo hb
          · intro x n hx
            rcases List.mem_append.mp hx with hx | hx
            · exact hpl (x, n) (List.mem_append_left _ hx)
            · obtain ⟨u, hu, e⟩ := List.mem_map.mp hx
              cases e
              exact hsub.2 hqp _ hu
          · rw [← hans]
            exact open_ok hr (by omega) p qs
end
end LL
set_option Elab.async false
set_option linter.all false
set_option maxRecDepth 100000
set_option maxHeartbeats 4000000
/-! DwL6: what is drawn: names, labels, rows, types. -/
namespace LL
open PySem PySem.Spec PyProof.Rows L2 Dw
theorem nodup_len {α : Type} : ∀ (l m : List α), l.Nodup → (∀ x ∈ l, x ∈ m) → l.length ≤ m.length
  | [], m, _, _ => Nat.zero_le _
  | x :: l, m, hn, hs => by
    obtain ⟨h1, h2⟩ := List.nodup_cons.mp hn
    obtain ⟨s, t, rfl⟩ := List.append_of_mem (hs x List.mem_cons_self)
    have ih := nodup_len l (s ++ t) h2 fun y hy => by
      have := hs y (List.mem_cons_of_mem _ hy)
      simp only [List.mem_append, List.mem_cons] at this ⊢
      rcases this with z | rfl | z
      · exact .inl z
      · exact absurd hy h1
      · exact .inr z
    simp only [List.length_append, List.length_cons] at ih ⊢
    omega
theorem lexL_irr : ∀ x : List Nat, lexL x x = false
  | [] => rfl
  | x :: xs => by simp only [lexL, if_true]; exact lexL_irr xs
theorem lt_irr {d : D} (h : ∃ x y, d = .tup [.str x, .str y]) : ltD d d = false := by
  obtain ⟨x, y, rfl⟩ := h
  rw [pair_ltD, if_pos rfl, if_pos rfl]
/-- a row as it is drawn -/
def GoodRow (en : Int) (r : D) : Prop := ∃ ls e, r = .tup [.tup ls, e] ∧ (∀ l ∈ ls, labelD l = true) ∧ ls.Pairwise (fun x y => ltD x y = true) ∧ ls.length ≤ 3 ∧ (e = .non ∨ ∃ i, e = .int i ∧ 0 ≤ i ∧ i < en)
/-- a type as it is drawn -/
inductive TY (ty en : Int) : Nat → D → Prop where
  | base {n : Nat} {w : List Nat} : w = w_int ∨ w = w_truth ∨ w = w_unit → TY ty en n (.tup [.str w])
  | var {n : Nat} {i : Int} : 0 ≤ i → i < ty → TY ty en n (.tup [.str w_var, .int i])
  | own {n : Nat} {x y : List Nat} : nameB x = true → nameB y = true → TY ty en n (.tup [.str w_own, .str x, .str y])
  | pair {n : Nat} {a b : D} : TY ty en n a → TY ty en n b → TY ty en (n + 1) (.tup [.str w_pair, a, b])
  | list {n : Nat} {a : D} : TY ty en n a → TY ty en (n + 1) (.tup [.str w_list, a])
  | fn {n : Nat} {a r b : D} : TY ty en n a → GoodRow en r → TY ty en n b → TY ty en (n + 1) (.tup [.str w_fun, a, r, b])
theorem words_q : ∀ w ∈ wordsL, w.head? ≠ some 113 := by decide
theorem q_name {x : List Nat} (h : ∀ c ∈ x, signB c = true) (hl : x.length ≤ 9) : nameB (w_q ++ x ++ w_0) = true := by
  have hc : wordsL.contains (w_q ++ x ++ w_0) = false := by
    rw [List.contains_eq_mem]
    exact decide_eq_false fun hm => words_q _ hm rfl
  unfold nameB
  rw [hc]
  have e : w_q ++ x ++ w_0 = 113 :: (x ++ w_0) := rfl
  rw [e]
  simp only [List.length_cons, List.length_append, Bool.not_false, Bool.and_true, Bool.and_eq_true, decide_eq_true_eq, List.all_cons, List.all_append]
  refine ⟨⟨by omega, by simp [w_0]; omega⟩, by decide, by decide, List.all_eq_true.mpr h, by decide⟩
section
variable {pg : Pg} (B : Base pg) {j : Nat} {M : DM} {Qx : QX} {Q : QD}
include B
theorem name_draw {d : D} (hj : 3 ≤ j) (hD : Deal M d) (hQ : ∀ x M', nameB x = true → Deal M' d → Q (.str x) M') : (callW pg j).run B.i_nameL [d] M Qx Q := by
  obtain ⟨k, rfl⟩ : ∃ k, j = k + 1 := ⟨j - 1, by omega⟩
  rw [callW_run B.h_nameL]
  refine ⟨rfl, rfl, ?_⟩
  simp [Dw.wpT, wpE, wpA, wpI, wpO, wpSs, Dw.wpS, res, lookD, cmpR, ifD, truthD, backQ, backX, Dw.start, isiR, isTys, isTy, notR, bltR, lenOf, seqOf, okEq, okIn, plainD, plainDs, deepD, deepDs, eqD, eqDs, idxR, setDs, Dw.inR, slcV, newL, sameC, mthR, rcvOk, lstAt, resM, tgT, tgTs, Dw.augR, Dw.intD, updM_same, seqI, resI, binR, negR, anyM, flat_tup, flat_str, flat_int, flat_lst, flat_bl, flat_non, f_nameL]
  refine any_at B (by omega) hD (by omega) (by omega) fun i1 M1 a1 b1 g1 => ?_
  by_cases h0 : 0 < i1
  · simp [h0]
    refine of_at B (by omega) g1 (by simp) (by simp) fun y hy M2 g2 => ?_
    simp only [List.mem_cons, List.not_mem_nil, or_false] at hy
    rcases hy with rfl | rfl | rfl | rfl | rfl | rfl | rfl | rfl | rfl <;> exact hQ _ _ (by decide) g2
  · simp [h0]
    refine of_at B (by omega) g1 (by simp) (by simp) fun y hy M2 g2 => ?_
    obtain ⟨t, rfl, ht⟩ : ∃ t : Nat, y = .int ((t : Nat) : Int) ∧ t ≤ 11 := by
      simp only [List.mem_cons, List.not_mem_nil, or_false] at hy
      rcases hy with rfl | rfl | rfl
      · exact ⟨1, rfl, by omega⟩
      · exact ⟨2, rfl, by omega⟩
      · exact ⟨11, rfl, by omega⟩
    simp [rngI, resI]
    refine ⟨by unfold sizeLine; omega, ?_⟩
    refine for_all (P := fun _ => True) (J := fun n δ M => ∃ (x : List Nat) (e : Option D), δ = [some d, e, some (.str x), some (.str w__49)] ∧ (∀ c ∈ x, signB c = true) ∧ x.length + n ≤ 11 ∧ Deal M d) (fun _ _ _ _ => trivial) ?_ ?_ _ (fun _ _ => trivial) _ _ ⟨[], none, rfl, (fun _ z => nomatch z), by rw [range_len]; simp; omega, g2⟩
    · rintro δ M3 ⟨x, e, rfl, hx, hl, g3⟩
      try simp [Dw.wpT, wpE, wpA, wpI, wpO, wpSs, Dw.wpS, res, lookD, cmpR, ifD, truthD, backQ, backX, Dw.start, isiR, isTys, isTy, notR, bltR, lenOf, seqOf, okEq, okIn, plainD, plainDs, deepD, deepDs, eqD, eqDs, idxR, setDs, Dw.inR, slcV, newL, sameC, mthR, rcvOk, lstAt, resM, tgT, tgTs, Dw.augR, Dw.intD, updM_same, seqI, resI, binR, negR, anyM, flat_tup, flat_str, flat_int, flat_lst, flat_bl, flat_non]
      refine of_at B (by omega) g3 (by simp) (by simp) fun y hy M4 g4 => ?_
      obtain ⟨w, rfl, hw, hwl⟩ : ∃ w, y = .str w ∧ (∀ c ∈ w, signB c = true) ∧ w.length = 1 := by
        simp only [List.mem_cons, List.not_mem_nil, or_false] at hy
        rcases hy with rfl | rfl | rfl
        · exact ⟨w_a, rfl, by decide, rfl⟩
        · exact ⟨w_k, rfl, by decide, rfl⟩
        · exact ⟨w_z, rfl, by decide, rfl⟩
      try simp [Dw.wpT, wpE, wpA, wpI, wpO, wpSs, Dw.wpS, res, lookD, cmpR, ifD, truthD, backQ, backX, Dw.start, isiR, isTys, isTy, notR, bltR, lenOf, seqOf, okEq, okIn, plainD, plainDs, deepD, deepDs, eqD, eqDs, idxR, setDs, Dw.inR, slcV, newL, sameC, mthR, rcvOk, lstAt, resM, tgT, tgTs, Dw.augR, Dw.intD, updM_same, seqI, resI, binR, negR, anyM, flat_tup, flat_str, flat_int, flat_lst, flat_bl, flat_non]
      refine ⟨by unfold sizeLine; omega, ?_⟩
      refine namel_at B (by omega) ?_
      cases hn : nameB (w ++ x) with
      | true =>
        try simp [Dw.wpT, wpE, wpA, wpI, wpO, wpSs, Dw.wpS, res, lookD, cmpR, ifD, truthD, backQ, backX, Dw.start, isiR, isTys, isTy, notR, bltR, lenOf, seqOf, okEq, okIn, plainD, plainDs, deepD, deepDs, eqD, eqDs, idxR, setDs, Dw.inR, slcV, newL, sameC, mthR, rcvOk, lstAt, resM, tgT, tgTs, Dw.augR, Dw.intD, updM_same, seqI, resI, binR, negR, anyM, flat_tup, flat_str, flat_int, flat_lst, flat_bl, flat_non]
        exact hQ _ _ hn g4
      | false =>
        simp [Dw.wpT, wpE, wpA, wpI, wpO, wpSs, Dw.wpS, res, lookD, cmpR, ifD, truthD, backQ, backX, Dw.start, isiR, isTys, isTy, notR, bltR, lenOf, seqOf, okEq, okIn, plainD, plainDs, deepD, deepDs, eqD, eqDs, idxR, setDs, Dw.inR, slcV, newL, sameC, mthR, rcvOk, lstAt, resM, tgT, tgTs, Dw.augR, Dw.intD, updM_same, seqI, resI, binR, negR, anyM, flat_tup, flat_str, flat_int, flat_lst, flat_bl, flat_non, Dw.intD]
        have hc : ∀ c ∈ Dw.cutD (w ++ x) none (some 9), signB c = true := fun c hc => by
          have hm : c ∈ w ++ x := List.mem_of_mem_drop (List.mem_of_mem_take hc)
          rcases List.mem_append.mp hm with z | z
          · exact hw c z
          · exact hx c z
        have hcl : (Dw.cutD (w ++ x) none (some 9)).length ≤ 9 := by
          simp [Dw.cutD, sixD]
          omega
        have q := q_name hc hcl
        refine ⟨by simp [w_q]; unfold sizeLine; omega, by simp [w_q, w_0]; unfold sizeLine; omega, ?_⟩
        have q2 := hQ _ M4 q g4
        simpa using q2
    · rintro n e δ M3 N _ ⟨x, e', rfl, hx, hl, g3⟩ hN
      try simp [Dw.wpT, wpE, wpA, wpI, wpO, wpSs, Dw.wpS, res, lookD, cmpR, ifD, truthD, backQ, backX, Dw.start, isiR, isTys, isTy, notR, bltR, lenOf, seqOf, okEq, okIn, plainD, plainDs, deepD, deepDs, eqD, eqDs, idxR, setDs, Dw.inR, slcV, newL, sameC, mthR, rcvOk, lstAt, resM, tgT, tgTs, Dw.augR, Dw.intD, updM_same, seqI, resI, binR, negR, anyM, flat_tup, flat_str, flat_int, flat_lst, flat_bl, flat_non]
      refine ⟨by decide, ?_⟩
      refine any_at B (by omega) g3 (by omega) (by omega) fun i M4 a4 b4 g4 => ?_
      have h36 : (w__49 ++ w_0123456789).length = 36 := by decide
      have hi : i.toNat < (w__49 ++ w_0123456789).length := by rw [h36]; omega
      have hix : ixD (w__49.length + w_0123456789.length) i = some i.toNat := by
        rw [show w__49.length + w_0123456789.length = 36 from by decide]
        unfold ixD
        rw [if_pos a4, if_pos (by omega)]
      simp [Dw.wpT, wpE, wpA, wpI, wpO, wpSs, Dw.wpS, res, lookD, cmpR, ifD, truthD, backQ, backX, Dw.start, isiR, isTys, isTy, notR, bltR, lenOf, seqOf, okEq, okIn, plainD, plainDs, deepD, deepDs, eqD, eqDs, idxR, setDs, Dw.inR, slcV, newL, sameC, mthR, rcvOk, lstAt, resM, tgT, tgTs, Dw.augR, Dw.intD, updM_same, seqI, resI, binR, negR, anyM, flat_tup, flat_str, flat_int, flat_lst, flat_bl, flat_non, hix, List.getElem?_eq_getElem hi]
      refine ⟨by unfold sizeLine; omega, hN _ _ ⟨_, some e, rfl, fun c hc => ?_, by simp; omega, g4⟩⟩
      rcases List.mem_append.mp hc with z | z
      · exact hx c z
      · rw [List.mem_singleton] at z
        subst z
        have hm := List.getElem_mem hi
        rw [← sign_all]
        rw [List.contains_eq_mem]
        exact decide_eq_true (by rw [show w__50 = w__49 ++ w_0123456789 from by decide]; exact hm)
theorem labels_draw {d : D} (hj : 4 ≤ j) (hD : Deal M d) (hQ : ∀ ls M', (∀ l ∈ ls, labelD l = true) → ls.Pairwise (fun x y => ltD x y = true) → ls.length ≤ 3 → Deal M' d → Q (.tup ls) M') : (callW pg j).run B.i_labelsL [d, .int 3] M Qx Q := by
  obtain ⟨k, rfl⟩ : ∃ k, j = k + 1 := ⟨j - 1, by omega⟩
  rw [callW_run B.h_labelsL]
  refine ⟨rfl, rfl, ?_⟩
  simp [Dw.wpT, wpE, wpA, wpI, wpO, wpSs, Dw.wpS, res, lookD, cmpR, ifD, truthD, backQ, backX, Dw.start, isiR, isTys, isTy, notR, bltR, lenOf, seqOf, okEq, okIn, plainD, plainDs, deepD, deepDs, eqD, eqDs, idxR, setDs, Dw.inR, slcV, newL, sameC, mthR, rcvOk, lstAt, resM, tgT, tgTs, Dw.augR, Dw.intD, updM_same, seqI, resI, binR, negR, anyM, flat_tup, flat_str, flat_int, flat_lst, flat_bl, flat_non, f_labelsL]
  refine any_at B (by omega) hD (by omega) (by omega) fun i M1 a1 b1 g1 => ?_
  simp [rngI, resI]
  refine ⟨by unfold sizeLine; omega, ?_⟩
  refine lc_all (P := fun y => labelD y = true) (J := fun M => Deal M d) (fun _ _ => trivial) (fun e M R hJ hR => ?_) _ _ _ g1 (by simp) fun ys M2 h1 h2 h3 => ?_
  · simp [Dw.wpT, wpE, wpA, wpI, wpO, wpSs, Dw.wpS, res, lookD, cmpR, ifD, truthD, backQ, backX, Dw.start, isiR, isTys, isTy, notR, bltR, lenOf, seqOf, okEq, okIn, plainD, plainDs, deepD, deepDs, eqD, eqDs, idxR, setDs, Dw.inR, slcV, newL, sameC, mthR, rcvOk, lstAt, resM, tgT, tgTs, Dw.augR, Dw.intD, updM_same, seqI, resI, binR, negR, anyM, flat_tup, flat_str, flat_int, flat_lst, flat_bl, flat_non, wipeD]
    refine name_draw B (by omega) hJ fun x M' hx g => ?_
    refine name_draw B (by omega) g fun y M'' hy g' => ?_
    exact hR _ _ (by simp [labelD, nameD, hx, hy]) g'
  · rw [range_len] at h2
    have h2' : ys.length ≤ 3 := by simp at h2; omega
    simp [newL, sstP]
    refine ⟨⟨by omega, .inl fun l hl => ?_⟩, fun es hs => ?_⟩
    · obtain ⟨x, y, rfl, _, _⟩ := label_two (h1 l hl)
      exact ⟨x, y, rfl⟩
    · try simp [Dw.wpT, wpE, wpA, wpI, wpO, wpSs, Dw.wpS, res, lookD, cmpR, ifD, truthD, backQ, backX, Dw.start, isiR, isTys, isTy, notR, bltR, lenOf, seqOf, okEq, okIn, plainD, plainDs, deepD, deepDs, eqD, eqDs, idxR, setDs, Dw.inR, slcV, newL, sameC, mthR, rcvOk, lstAt, resM, tgT, tgTs, Dw.augR, Dw.intD, updM_same, seqI, resI, binR, negR, anyM, flat_tup, flat_str, flat_int, flat_lst, flat_bl, flat_non]
      refine hQ es M2 (fun l hl => h1 l ((hs.2 l).mp hl)) hs.1 ?_ h3
      refine Nat.le_trans (nodup_len es ys ?_ fun l hl => (hs.2 l).mp hl) h2'
      refine List.Pairwise.imp_of_mem (fun {a b} ha hb hab e => ?_) hs.1
      subst e
      obtain ⟨x, y, rfl, _, _⟩ := label_two (h1 a ((hs.2 a).mp ha))
      rw [lt_irr ⟨x, y, rfl⟩] at hab
      cases hab
theorem row_draw {d : D} {en : Int} (hj : 5 ≤ j) (h0 : 0 ≤ en) (h1 : en < 2 ^ 63) (hD : Deal M d) (hQ : ∀ r M', GoodRow en r → Deal M' d → Q r M') : (callW pg j).run B.i_a_rowL [d, .int en] M Qx Q := by
  obtain ⟨k, rfl⟩ : ∃ k, j = k + 1 := ⟨j - 1, by omega⟩
  rw [callW_run B.h_a_rowL]
  refine ⟨rfl, rfl, ?_⟩
  simp [Dw.wpT, wpE, wpA, wpI, wpO, wpSs, Dw.wpS, res, lookD, cmpR, ifD, truthD, backQ, backX, Dw.start, isiR, isTys, isTy, notR, bltR, lenOf, seqOf, okEq, okIn, plainD, plainDs, deepD, deepDs, eqD, eqDs, idxR, setDs, Dw.inR, slcV, newL, sameC, mthR, rcvOk, lstAt, resM, tgT, tgTs, Dw.augR, Dw.intD, updM_same, seqI, resI, binR, negR, anyM, flat_tup, flat_str, flat_int, flat_lst, flat_bl, flat_non, f_a_rowL]
  refine labels_draw B (by omega) hD fun ls M1 l1 l2 l3 g1 => ?_
  by_cases he : en = 0
  · subst he
    try simp [Dw.wpT, wpE, wpA, wpI, wpO, wpSs, Dw.wpS, res, lookD, cmpR, ifD, truthD, backQ, backX, Dw.start, isiR, isTys, isTy, notR, bltR, lenOf, seqOf, okEq, okIn, plainD, plainDs, deepD, deepDs, eqD, eqDs, idxR, setDs, Dw.inR, slcV, newL, sameC, mthR, rcvOk, lstAt, resM, tgT, tgTs, Dw.augR, Dw.intD, updM_same, seqI, resI, binR, negR, anyM, flat_tup, flat_str, flat_int, flat_lst, flat_bl, flat_non]
    exact hQ _ _ ⟨ls, .non, rfl, l1, l2, l3, .inl rfl⟩ g1
  · have he' : (en == 0) = false := by simpa using he
    simp [Dw.wpT, wpE, wpA, wpI, wpO, wpSs, Dw.wpS, res, lookD, cmpR, ifD, truthD, backQ, backX, Dw.start, isiR, isTys, isTy, notR, bltR, lenOf, seqOf, okEq, okIn, plainD, plainDs, deepD, deepDs, eqD, eqDs, idxR, setDs, Dw.inR, slcV, newL, sameC, mthR, rcvOk, lstAt, resM, tgT, tgTs, Dw.augR, Dw.intD, updM_same, seqI, resI, binR, negR, anyM, flat_tup, flat_str, flat_int, flat_lst, flat_bl, flat_non, he']
    refine any_at B (by omega) g1 (by omega) (by omega) fun i M2 a b g2 => ?_
    try simp [Dw.wpT, wpE, wpA, wpI, wpO, wpSs, Dw.wpS, res, lookD, cmpR, ifD, truthD, backQ, backX, Dw.start, isiR, isTys, isTy, notR, bltR, lenOf, seqOf, okEq, okIn, plainD, plainDs, deepD, deepDs, eqD, eqDs, idxR, setDs, Dw.inR, slcV, newL, sameC, mthR, rcvOk, lstAt, resM, tgT, tgTs, Dw.augR, Dw.intD, updM_same, seqI, resI, binR, negR, anyM, flat_tup, flat_str, flat_int, flat_lst, flat_bl, flat_non]
    cases hi : i == 0 with
    | true =>
      try simp [Dw.wpT, wpE, wpA, wpI, wpO, wpSs, Dw.wpS, res, lookD, cmpR, ifD, truthD, backQ, backX, Dw.start, isiR, isTys, isTy, notR, bltR, lenOf, seqOf, okEq, okIn, plainD, plainDs, deepD, deepDs, eqD, eqDs, idxR, setDs, Dw.inR, slcV, newL, sameC, mthR, rcvOk, lstAt, resM, tgT, tgTs, Dw.augR, Dw.intD, updM_same, seqI, resI, binR, negR, anyM, flat_tup, flat_str, flat_int, flat_lst, flat_bl, flat_non]
      exact hQ _ _ ⟨ls, .non, rfl, l1, l2, l3, .inl rfl⟩ g2
    | false =>
      try simp [Dw.wpT, wpE, wpA, wpI, wpO, wpSs, Dw.wpS, res, lookD, cmpR, ifD, truthD, backQ, backX, Dw.start, isiR, isTys, isTy, notR, bltR, lenOf, seqOf, okEq, okIn, plainD, plainDs, deepD, deepDs, eqD, eqDs, idxR, setDs, Dw.inR, slcV, newL, sameC, mthR, rcvOk, lstAt, resM, tgT, tgTs, Dw.augR, Dw.intD, updM_same, seqI, resI, binR, negR, anyM, flat_tup, flat_str, flat_int, flat_lst, flat_bl, flat_non]
      refine any_at B (by omega) g2 (by omega) (by omega) fun e M3 a' b' g3 => ?_
      exact hQ _ _ ⟨ls, .int e, rfl, l1, l2, l3, .inr ⟨e, rfl, a', b'⟩⟩ g3
theorem atype_draw (d : D) {ty en : Int} (t0 : 0 ≤ ty) (t1 : ty < 2 ^ 63) (e0 : 0 ≤ en) (e1 : en < 2 ^ 63) : ∀ (n : Nat) {j : Nat} {p : Nat} {M : DM} {Qx : QX} {Q : QD}, 5 ≤ n + p → 7 + n ≤ j → Deal M d → (∀ t M', TY ty en n t → Deal M' d → Q t M') → (callW pg j).run B.i_a_typeL [d, .int ((p : Nat) : Int), .int ty, .int en] M Qx Q
  | n, j, p, M, Qx, Q, hn, hj, hD, hQ => by
    obtain ⟨k, rfl⟩ : ∃ k, j = k + 1 := ⟨j - 1, by omega⟩
    rw [callW_run B.h_a_typeL]
    refine ⟨rfl, rfl, ?_⟩
    simp [Dw.wpT, wpE, wpA, wpI, wpO, wpSs, Dw.wpS, res, lookD, cmpR, ifD, truthD, backQ, backX, Dw.start, isiR, isTys, isTy, notR, bltR, lenOf, seqOf, okEq, okIn, plainD, plainDs, deepD, deepDs, eqD, eqDs, idxR, setDs, Dw.inR, slcV, newL, sameC, mthR, rcvOk, lstAt, resM, tgT, tgTs, Dw.augR, Dw.intD, updM_same, seqI, resI, binR, negR, anyM, flat_tup, flat_str, flat_int, flat_lst, flat_bl, flat_non, f_a_typeL]
    refine any_at B (by omega) hD (by omega) (by omega) fun i M1 a b g1 => ?_
    have base : ∀ {R : QD} {M1 : DM} {Qx : QX}, Deal M1 d → (∀ w M', w = w_int ∨ w = w_truth ∨ w = w_unit → Deal M' d → R (.str w) M') → (callW pg k).run B.i_ofL [d, .lst [.str w_int, .str w_truth, .str w_unit]] M1 Qx R := fun g h => by
      refine of_at B (by omega) g (by simp) (by simp) fun y hy M2 g2 => ?_
      simp only [List.mem_cons, List.not_mem_nil, or_false] at hy
      rcases hy with rfl | rfl | rfl
      · exact h _ _ (.inl rfl) g2
      · exact h _ _ (.inr (.inl rfl)) g2
      · exact h _ _ (.inr (.inr rfl)) g2
    by_cases hp : (4 : Int) < p
    · simp [hp]
      have hp' : 4 < p := by omega
      try simp [hp']
      refine base g1 fun w M2 hw g2 => hQ _ _ (.base hw) g2
    · have hp' : ¬(4 < p) := by omega
      obtain ⟨m, rfl⟩ : ∃ m, n = m + 1 := ⟨n - 1, by omega⟩
      have ih : ∀ {M : DM} {Qx : QX} {Q : QD}, Deal M d → (∀ t M', TY ty en m t → Deal M' d → Q t M') → (callW pg k).run B.i_a_typeL [d, .int ((p : Int) + 1), .int ty, .int en] M Qx Q := fun g h =>
        atype_draw d t0 t1 e0 e1 m (p := p + 1) (by omega) (by omega) g h
      simp [hp, hp']
      by_cases h2 : i < 2
      · simp [h2]
        refine base g1 fun w M2 hw g2 => hQ _ _ (.base hw) g2
      have var : ∀ {M1 : DM} {Qx : QX}, 0 < ty → Deal M1 d → (callW pg k).run B.i_anyL [d, .int ty] M1 Qx fun y M' => Q (.tup [.str w_var, y]) M' := fun h g =>
        any_at B (by omega) g h t1 fun v M2 a b g2 => hQ _ _ (.var a b) g2
      have fin : ∀ {M1 : DM}, Deal M1 d → (Q (.tup [.str w_int]) M1) := fun g => hQ _ _ (.base (.inl rfl)) g
      obtain rfl | rfl | rfl | rfl | rfl | rfl | rfl : i = 2 ∨ i = 3 ∨ i = 4 ∨ i = 5 ∨ i = 6 ∨ i = 7 ∨ i = 8 := by omega
      · by_cases ht : 0 < ty
        · simp [Dw.wpT, wpE, wpA, wpI, wpO, wpSs, Dw.wpS, res, lookD, cmpR, ifD, truthD, backQ, backX, Dw.start, isiR, isTys, isTy, notR, bltR, lenOf, seqOf, okEq, okIn, plainD, plainDs, deepD, deepDs, eqD, eqDs, idxR, setDs, Dw.inR, slcV, newL, sameC, mthR, rcvOk, lstAt, resM, tgT, tgTs, Dw.augR, Dw.intD, updM_same, seqI, resI, binR, negR, anyM, flat_tup, flat_str, flat_int, flat_lst, flat_bl, flat_non, ht]
          exact var ht g1
        · simp [Dw.wpT, wpE, wpA, wpI, wpO, wpSs, Dw.wpS, res, lookD, cmpR, ifD, truthD, backQ, backX, Dw.start, isiR, isTys, isTy, notR, bltR, lenOf, seqOf, okEq, okIn, plainD, plainDs, deepD, deepDs, eqD, eqDs, idxR, setDs, Dw.inR, slcV, newL, sameC, mthR, rcvOk, lstAt, resM, tgT, tgTs, Dw.augR, Dw.intD, updM_same, seqI, resI, binR, negR, anyM, flat_tup, flat_str, flat_int, flat_lst, flat_bl, flat_non, ht]
          refine ih g1 fun x M2 hx g2 => ?_
          refine row_draw B (by omega) e0 e1 g2 fun r M3 hr g3 => ?_
          refine ih g3 fun y M4 hy g4 => ?_
          exact hQ _ _ (.fn hx hr hy) g4
      · simp [Dw.wpT, wpE, wpA, wpI, wpO, wpSs, Dw.wpS, res, lookD, cmpR, ifD, truthD, backQ, backX, Dw.start, isiR, isTys, isTy, notR, bltR, lenOf, seqOf, okEq, okIn, plainD, plainDs, deepD, deepDs, eqD, eqDs, idxR, setDs, Dw.inR, slcV, newL, sameC, mthR, rcvOk, lstAt, resM, tgT, tgTs, Dw.augR, Dw.intD, updM_same, seqI, resI, binR, negR, anyM, flat_tup, flat_str, flat_int, flat_lst, flat_bl, flat_non, f_a_typeL]
        refine ih g1 fun x M2 hx g2 => ?_
        refine row_draw B (by omega) e0 e1 g2 fun r M3 hr g3 => ?_
        refine ih g3 fun y M4 hy g4 => ?_
        exact hQ _ _ (.fn hx hr hy) g4
      · simp [Dw.wpT, wpE, wpA, wpI, wpO, wpSs, Dw.wpS, res, lookD, cmpR, ifD, truthD, backQ, backX, Dw.start, isiR, isTys, isTy, notR, bltR, lenOf, seqOf, okEq, okIn, plainD, plainDs, deepD, deepDs, eqD, eqDs, idxR, setDs, Dw.inR, slcV, newL, sameC, mthR, rcvOk, lstAt, resM, tgT, tgTs, Dw.augR, Dw.intD, updM_same, seqI, resI, binR, negR, anyM, flat_tup, flat_str, flat_int, flat_lst, flat_bl, flat_non, f_a_typeL]
        refine ih g1 fun x M2 hx g2 => ?_
        refine row_draw B (by omega) e0 e1 g2 fun r M3 hr g3 => ?_
        refine ih g3 fun y M4 hy g4 => ?_
        exact hQ _ _ (.fn hx hr hy) g4
      · simp [Dw.wpT, wpE, wpA, wpI, wpO, wpSs, Dw.wpS, res, lookD, cmpR, ifD, truthD, backQ, backX, Dw.start, isiR, isTys, isTy, notR, bltR, lenOf, seqOf, okEq, okIn, plainD, plainDs, deepD, deepDs, eqD, eqDs, idxR, setDs, Dw.inR, slcV, newL, sameC, mthR, rcvOk, lstAt, resM, tgT, tgTs, Dw.augR, Dw.intD, updM_same, seqI, resI, binR, negR, anyM, flat_tup, flat_str, flat_int, flat_lst, flat_bl, flat_non, f_a_typeL]
        refine ih g1 fun x M2 hx g2 => ?_
        refine ih g2 fun y M3 hy g3 => ?_
        exact hQ _ _ (.pair hx hy) g3
      · simp [Dw.wpT, wpE, wpA, wpI, wpO, wpSs, Dw.wpS, res, lookD, cmpR, ifD, truthD, backQ, backX, Dw.start, isiR, isTys, isTy, notR, bltR, lenOf, seqOf, okEq, okIn, plainD, plainDs, deepD, deepDs, eqD, eqDs, idxR, setDs, Dw.inR, slcV, newL, sameC, mthR, rcvOk, lstAt, resM, tgT, tgTs, Dw.augR, Dw.intD, updM_same, seqI, resI, binR, negR, anyM, flat_tup, flat_str, flat_int, flat_lst, flat_bl, flat_non, f_a_typeL]
        refine ih g1 fun x M2 hx g2 => ?_
        exact hQ _ _ (.list hx) g2
      · simp [Dw.wpT, wpE, wpA, wpI, wpO, wpSs, Dw.wpS, res, lookD, cmpR, ifD, truthD, backQ, backX, Dw.start, isiR, isTys, isTy, notR, bltR, lenOf, seqOf, okEq, okIn, plainD, plainDs, deepD, deepDs, eqD, eqDs, idxR, setDs, Dw.inR, slcV, newL, sameC, mthR, rcvOk, lstAt, resM, tgT, tgTs, Dw.augR, Dw.intD, updM_same, seqI, resI, binR, negR, anyM, flat_tup, flat_str, flat_int, flat_lst, flat_bl, flat_non, f_a_typeL]
        refine name_draw B (by omega) g1 fun x M2 hx g2 => ?_
        refine name_draw B (by omega) g2 fun y M3 hy g3 => ?_
        exact hQ _ _ (.own hx hy) g3
      · by_cases ht : 0 < ty
        · simp [Dw.wpT, wpE, wpA, wpI, wpO, wpSs, Dw.wpS, res, lookD, cmpR, ifD, truthD, backQ, backX, Dw.start, isiR, isTys, isTy, notR, bltR, lenOf, seqOf, okEq, okIn, plainD, plainDs, deepD, deepDs, eqD, eqDs, idxR, setDs, Dw.inR, slcV, newL, sameC, mthR, rcvOk, lstAt, resM, tgT, tgTs, Dw.augR, Dw.intD, updM_same, seqI, resI, binR, negR, anyM, flat_tup, flat_str, flat_int, flat_lst, flat_bl, flat_non, ht]
          exact var ht g1
        · simp [Dw.wpT, wpE, wpA, wpI, wpO, wpSs, Dw.wpS, res, lookD, cmpR, ifD, truthD, backQ, backX, Dw.start, isiR, isTys, isTy, notR, bltR, lenOf, seqOf, okEq, okIn, plainD, plainDs, deepD, deepDs, eqD, eqDs, idxR, setDs, Dw.inR, slcV, newL, sameC, mthR, rcvOk, lstAt, resM, tgT, tgTs, Dw.augR, Dw.intD, updM_same, seqI, resI, binR, negR, anyM, flat_tup, flat_str, flat_int, flat_lst, flat_bl, flat_non, ht]
          exact fin g1
end
end LL
set_option Elab.async false
set_option linter.all false
set_option maxRecDepth 100000
set_option maxHeartbeats 4000000
/-! DwL7: like things are the same; checked_type. -/
namespace LL
open PySem PySem.Spec PyProof.Rows L2 Dw
theorem deep_mem : ∀ {us : List D} {u : D}, u ∈ us → deepD u ≤ deepDs us
  | x :: xs, u, h => by
    simp only [deepDs]
    rcases List.mem_cons.mp h with rfl | h
    · omega
    · have := deep_mem h
      omega
theorem zip_self : ∀ (xs : List D) (e : D), e ∈ zipD xs xs → ∃ a ∈ xs, e = .tup [a, a]
  | [], e, h => by simp [zipD] at h
  | x :: xs, e, h => by
    simp only [zipD, List.mem_cons] at h
    rcases h with rfl | h
    · exact ⟨x, by simp, rfl⟩
    · obtain ⟨a, ha, e'⟩ := zip_self xs e h
      exact ⟨a, by simp [ha], e'⟩
section
variable {pg : Pg} (B : Base pg)
include B
theorem same_refl : ∀ (d : D) {j : Nat} {M : DM} {Qx : QX} {Q : QD}, 1 + deepD d ≤ j → plainD d = true → Q (.bl true) M → (callW pg j).run B.i_sameL [d, d] M Qx Q
  | .non, j, M, Qx, Q, hj, hp, hQ => by
    obtain ⟨k, rfl⟩ : ∃ k, j = k + 1 := ⟨j - 1, by omega⟩
    rw [callW_run B.h_sameL]
    refine ⟨rfl, rfl, ?_⟩
    simp [Dw.wpT, wpE, wpA, wpI, wpO, wpSs, Dw.wpS, res, lookD, cmpR, ifD, truthD, backQ, backX, Dw.start, isiR, isTys, isTy, notR, bltR, lenOf, seqOf, okEq, okIn, plainD, plainDs, deepD, deepDs, eqD, eqDs, idxR, setDs, Dw.inR, slcV, newL, sameC, mthR, rcvOk, lstAt, resM, tgT, tgTs, Dw.augR, Dw.intD, updM_same, seqI, resI, binR, negR, anyM, flatR, f_sameL]
    exact hQ
  | .bl b, j, M, Qx, Q, hj, hp, hQ => by
    obtain ⟨k, rfl⟩ : ∃ k, j = k + 1 := ⟨j - 1, by omega⟩
    rw [callW_run B.h_sameL]
    refine ⟨rfl, rfl, ?_⟩
    cases b with
    | true =>
      simp [Dw.wpT, wpE, wpA, wpI, wpO, wpSs, Dw.wpS, res, lookD, cmpR, ifD, truthD, backQ, backX, Dw.start, isiR, isTys, isTy, notR, bltR, lenOf, seqOf, okEq, okIn, plainD, plainDs, deepD, deepDs, eqD, eqDs, idxR, setDs, Dw.inR, slcV, newL, sameC, mthR, rcvOk, lstAt, resM, tgT, tgTs, Dw.augR, Dw.intD, updM_same, seqI, resI, binR, negR, anyM, flatR, f_sameL]
      exact hQ
    | false =>
      simp [Dw.wpT, wpE, wpA, wpI, wpO, wpSs, Dw.wpS, res, lookD, cmpR, ifD, truthD, backQ, backX, Dw.start, isiR, isTys, isTy, notR, bltR, lenOf, seqOf, okEq, okIn, plainD, plainDs, deepD, deepDs, eqD, eqDs, idxR, setDs, Dw.inR, slcV, newL, sameC, mthR, rcvOk, lstAt, resM, tgT, tgTs, Dw.augR, Dw.intD, updM_same, seqI, resI, binR, negR, anyM, flatR, f_sameL]
      exact hQ
  | .int i, j, M, Qx, Q, hj, hp, hQ => by
    obtain ⟨k, rfl⟩ : ∃ k, j = k + 1 := ⟨j - 1, by omega⟩
    rw [callW_run B.h_sameL]
    refine ⟨rfl, rfl, ?_⟩
    simp [Dw.wpT, wpE, wpA, wpI, wpO, wpSs, Dw.wpS, res, lookD, cmpR, ifD, truthD, backQ, backX, Dw.start, isiR, isTys, isTy, notR, bltR, lenOf, seqOf, okEq, okIn, plainD, plainDs, deepD, deepDs, eqD, eqDs, idxR, setDs, Dw.inR, slcV, newL, sameC, mthR, rcvOk, lstAt, resM, tgT, tgTs, Dw.augR, Dw.intD, updM_same, seqI, resI, binR, negR, anyM, flatR, f_sameL]
    exact hQ
  | .str i, j, M, Qx, Q, hj, hp, hQ => by
    obtain ⟨k, rfl⟩ : ∃ k, j = k + 1 := ⟨j - 1, by omega⟩
    rw [callW_run B.h_sameL]
    refine ⟨rfl, rfl, ?_⟩
    simp [Dw.wpT, wpE, wpA, wpI, wpO, wpSs, Dw.wpS, res, lookD, cmpR, ifD, truthD, backQ, backX, Dw.start, isiR, isTys, isTy, notR, bltR, lenOf, seqOf, okEq, okIn, plainD, plainDs, deepD, deepDs, eqD, eqDs, idxR, setDs, Dw.inR, slcV, newL, sameC, mthR, rcvOk, lstAt, resM, tgT, tgTs, Dw.augR, Dw.intD, updM_same, seqI, resI, binR, negR, anyM, flatR, f_sameL]
    exact hQ
  | .tup xs, j, M, Qx, Q, hj, hp, hQ => by
    obtain ⟨k, rfl⟩ : ∃ k, j = k + 1 := ⟨j - 1, by omega⟩
    rw [callW_run B.h_sameL]
    refine ⟨rfl, rfl, ?_⟩
    simp only [deepD] at hj
    simp [Dw.wpT, wpE, wpA, wpI, wpO, wpSs, Dw.wpS, res, lookD, cmpR, ifD, truthD, backQ, backX, Dw.start, isiR, isTys, isTy, notR, bltR, lenOf, seqOf, okEq, okIn, plainD, plainDs, deepD, deepDs, eqD, eqDs, idxR, setDs, Dw.inR, slcV, newL, sameC, mthR, rcvOk, lstAt, resM, tgT, tgTs, Dw.augR, Dw.intD, updM_same, seqI, resI, binR, negR, anyM, flatR, f_sameL, zipI]
    refine lc_keep (M := M) (p := fun _ => false) ?_ _ _ (fun e he R N h => ?_) ?_
    · trivial
    · obtain ⟨a, ha, rfl⟩ := zip_self xs e he
      simp [Dw.wpT, wpE, wpA, wpI, wpO, wpSs, Dw.wpS, res, lookD, cmpR, ifD, truthD, backQ, backX, Dw.start, isiR, isTys, isTy, notR, bltR, lenOf, seqOf, okEq, okIn, plainD, plainDs, deepD, deepDs, eqD, eqDs, idxR, setDs, Dw.inR, slcV, newL, sameC, mthR, rcvOk, lstAt, resM, tgT, tgTs, Dw.augR, Dw.intD, updM_same, seqI, resI, binR, negR, anyM, flatR, wipeD, Dw.wpC]
      refine same_refl a (by have := deep_mem ha; omega) (plain_mem hp a ha) ?_
      try simp [Dw.wpT, wpE, wpA, wpI, wpO, wpSs, Dw.wpS, res, lookD, cmpR, ifD, truthD, backQ, backX, Dw.start, isiR, isTys, isTy, notR, bltR, lenOf, seqOf, okEq, okIn, plainD, plainDs, deepD, deepDs, eqD, eqDs, idxR, setDs, Dw.inR, slcV, newL, sameC, mthR, rcvOk, lstAt, resM, tgT, tgTs, Dw.augR, Dw.intD, updM_same, seqI, resI, binR, negR, anyM, flatR]
      exact h
    · have e : (zipD xs xs).filter (fun _ => false) = [] := List.filter_eq_nil_iff.mpr fun _ _ => by simp
      rw [e]
      exact ⟨rfl, hQ⟩
  | .lst xs, j, M, Qx, Q, hj, hp, hQ => by
    obtain ⟨k, rfl⟩ : ∃ k, j = k + 1 := ⟨j - 1, by omega⟩
    rw [callW_run B.h_sameL]
    refine ⟨rfl, rfl, ?_⟩
    simp only [deepD] at hj
    simp [Dw.wpT, wpE, wpA, wpI, wpO, wpSs, Dw.wpS, res, lookD, cmpR, ifD, truthD, backQ, backX, Dw.start, isiR, isTys, isTy, notR, bltR, lenOf, seqOf, okEq, okIn, plainD, plainDs, deepD, deepDs, eqD, eqDs, idxR, setDs, Dw.inR, slcV, newL, sameC, mthR, rcvOk, lstAt, resM, tgT, tgTs, Dw.augR, Dw.intD, updM_same, seqI, resI, binR, negR, anyM, flatR, f_sameL, zipI]
    refine lc_keep (M := M) (p := fun _ => false) ?_ _ _ (fun e he R N h => ?_) ?_
    · trivial
    · obtain ⟨a, ha, rfl⟩ := zip_self xs e he
      simp [Dw.wpT, wpE, wpA, wpI, wpO, wpSs, Dw.wpS, res, lookD, cmpR, ifD, truthD, backQ, backX, Dw.start, isiR, isTys, isTy, notR, bltR, lenOf, seqOf, okEq, okIn, plainD, plainDs, deepD, deepDs, eqD, eqDs, idxR, setDs, Dw.inR, slcV, newL, sameC, mthR, rcvOk, lstAt, resM, tgT, tgTs, Dw.augR, Dw.intD, updM_same, seqI, resI, binR, negR, anyM, flatR, wipeD, Dw.wpC]
      refine same_refl a (by have := deep_mem ha; omega) (plain_mem hp a ha) ?_
      try simp [Dw.wpT, wpE, wpA, wpI, wpO, wpSs, Dw.wpS, res, lookD, cmpR, ifD, truthD, backQ, backX, Dw.start, isiR, isTys, isTy, notR, bltR, lenOf, seqOf, okEq, okIn, plainD, plainDs, deepD, deepDs, eqD, eqDs, idxR, setDs, Dw.inR, slcV, newL, sameC, mthR, rcvOk, lstAt, resM, tgT, tgTs, Dw.augR, Dw.intD, updM_same, seqI, resI, binR, negR, anyM, flatR]
      exact h
    · have e : (zipD xs xs).filter (fun _ => false) = [] := List.filter_eq_nil_iff.mpr fun _ _ => by simp
      rw [e]
      exact ⟨rfl, hQ⟩
  | .ref _, j, M, Qx, Q, hj, hp, hQ => by cases hp
  | .glo _, j, M, Qx, Q, hj, hp, hQ => by cases hp
  | .scr _, j, M, Qx, Q, hj, hp, hQ => by cases hp
  | .fnv .., j, M, Qx, Q, hj, hp, hQ => by cases hp
theorem checked_any (hc : pg[B.i_checked_type]? = some (f_checked_type B.i_is_type)) {v : D} {i : Int} {j : Nat} {M : DM} {Qx : QX} {Q : QD} (hj : 6 ≤ j) (hp : plainD v = true) (hs : sz v ≤ 1000000) (h1 : typeB v = true → Q .non M) (h2 : typeB v = false → Qx ⟨"InvalidType", some (.int i)⟩ M) : (callW pg j).run B.i_checked_type [v, .int i] M Qx Q := by
  obtain ⟨k, rfl⟩ : ∃ k, j = k + 1 := ⟨j - 1, by omega⟩
  rw [callW_run hc]
  refine ⟨rfl, rfl, ?_⟩
  simp [Dw.wpT, wpE, wpA, wpI, wpO, wpSs, Dw.wpS, res, lookD, cmpR, ifD, truthD, backQ, backX, Dw.start, isiR, isTys, isTy, notR, bltR, lenOf, seqOf, okEq, okIn, plainD, plainDs, deepD, deepDs, eqD, eqDs, idxR, setDs, Dw.inR, slcV, newL, sameC, mthR, rcvOk, lstAt, resM, tgT, tgTs, Dw.augR, Dw.intD, updM_same, seqI, resI, binR, negR, anyM, flat_tup, flat_str, flat_int, flat_lst, flat_bl, flat_non, f_checked_type]
  refine type_any B (by omega) hp hs ?_
  cases h : typeB v with
  | true =>
    try simp [Dw.wpT, wpE, wpA, wpI, wpO, wpSs, Dw.wpS, res, lookD, cmpR, ifD, truthD, backQ, backX, Dw.start, isiR, isTys, isTy, notR, bltR, lenOf, seqOf, okEq, okIn, plainD, plainDs, deepD, deepDs, eqD, eqDs, idxR, setDs, Dw.inR, slcV, newL, sameC, mthR, rcvOk, lstAt, resM, tgT, tgTs, Dw.augR, Dw.intD, updM_same, seqI, resI, binR, negR, anyM, flat_tup, flat_str, flat_int, flat_lst, flat_bl, flat_non]
    exact h1 h
  | false =>
    try simp [Dw.wpT, wpE, wpA, wpI, wpO, wpSs, Dw.wpS, res, lookD, cmpR, ifD, truthD, backQ, backX, Dw.start, isiR, isTys, isTy, notR, bltR, lenOf, seqOf, okEq, okIn, plainD, plainDs, deepD, deepDs, eqD, eqDs, idxR, setDs, Dw.inR, slcV, newL, sameC, mthR, rcvOk, lstAt, resM, tgT, tgTs, Dw.augR, Dw.intD, updM_same, seqI, resI, binR, negR, anyM, flat_tup, flat_str, flat_int, flat_lst, flat_bl, flat_non]
    exact h2 h
end
end LL
set_option Elab.async false
set_option linter.all false
set_option maxRecDepth 100000
set_option maxHeartbeats 4000000
/-! DwL8: types as trees. -/
namespace LL
open PySem PySem.Spec PyProof.Rows L2 Dw
inductive TT where
  | base (w : List Nat)
  | var (i : Int)
  | own (x y : List Nat)
  | pair (a b : TT)
  | list (a : TT)
  | fn (a : TT) (ls : List D) (e : D) (b : TT)
def TT.d : TT → D
  | .base w => .tup [.str w]
  | .var i => .tup [.str w_var, .int i]
  | .own x y => .tup [.str w_own, .str x, .str y]
  | .pair a b => .tup [.str w_pair, a.d, b.d]
  | .list a => .tup [.str w_list, a.d]
  | .fn a ls e b => .tup [.str w_fun, a.d, .tup [.tup ls, e], b.d]
def TT.ok : TT → Prop
  | .base w => w = w_int ∨ w = w_truth ∨ w = w_unit
  | .var i => 0 ≤ i ∧ i < 60
  | .own x y => nameB x = true ∧ nameB y = true
  | .pair a b => a.ok ∧ b.ok
  | .list a => a.ok
  | .fn a ls e b => a.ok ∧ rowB (.tup [.tup ls, e]) = true ∧ ls.length ≤ 4 ∧ b.ok
def TT.high : TT → Nat
  | .pair a b => 1 + max a.high b.high
  | .list a => 1 + a.high
  | .fn a _ _ b => 1 + max a.high b.high
  | _ => 1
def TT.size : TT → Nat
  | .pair a b => 1 + (a.size + b.size)
  | .list a => 1 + a.size
  | .fn a _ _ b => 1 + (a.size + b.size)
  | _ => 1
theorem name_plain (x : List Nat) : plainD (.str x) = true := rfl
theorem row_plain {ls : List D} {e : D} (h : rowB (.tup [.tup ls, e]) = true) : plainD (.tup [.tup ls, e]) = true := by
  simp only [rowB, Bool.and_eq_true, Bool.or_eq_true] at h
  obtain ⟨⟨⟨h1, _⟩, _⟩, h4⟩ := h
  have hl : plainDs ls = true := plain_all fun l hl => by
    obtain ⟨x, y, rfl, _, _⟩ := label_two (List.all_eq_true.mp h1 l hl)
    rfl
  have he : plainD e = true := by
    rcases h4 with h4 | h4
    · cases e <;> first | rfl | cases h4
    · cases e <;> first | rfl | cases h4
  simp [plainD, plainDs, hl, he]
theorem tt_plain : ∀ τ : TT, τ.ok → plainD τ.d = true
  | .base w, _ => rfl
  | .var i, _ => rfl
  | .own x y, _ => rfl
  | .pair a b, h => by simp [TT.d, plainD, plainDs, tt_plain a h.1, tt_plain b h.2]
  | .list a, h => by simp [TT.d, plainD, plainDs, tt_plain a h]
  | .fn a ls e b, h => by
    have := row_plain h.2.1
    simp only [plainD, plainDs] at this
    simp [TT.d, plainD, plainDs, tt_plain a h.1, tt_plain b h.2.2.2]
    simpa using this
theorem deep_tt : ∀ τ : TT, τ.ok → deepO τ.d = some (τ.high, τ.size)
  | .base w, h => by
    rw [deepO_eq]
    rcases h with rfl | rfl | rfl <;> decide
  | .var i, h => by
    obtain ⟨n1, n2, n3, n4, n5, n6, n7, n8, n9, n10, n11, n12, n13, n14, n15, n16, n17, n18⟩ := pl_ne
    have hi : idxB 60 (.int i) = true := by simp [idxB, h.1, h.2]
    have m1 : w_var ≠ w_int := by decide
    have m2 : w_var ≠ w_truth := by decide
    have m3 : w_var ≠ w_unit := by decide
    have m4 : w_var ≠ w_own := by decide
    rw [deepO_eq]
    simp [TT.d, kidsD, m1, m2, m3, m4, n13, n14, n15, hi, comb, maxN, TT.high, TT.size]
  | .own x y, h => by
    obtain ⟨n1, n2, n3, n4, n5, n6, n7, n8, n9, n10, n11, n12, n13, n14, n15, n16, n17, n18⟩ := pl_ne
    have m1 : w_own ≠ w_int := by decide
    have m2 : w_own ≠ w_truth := by decide
    have m3 : w_own ≠ w_unit := by decide
    rw [deepO_eq]
    simp [TT.d, kidsD, m1, m2, m3, n10, n11, n12, nameD, h.1, h.2, comb, maxN, TT.high, TT.size]
  | .pair a b, h => by
    have m1 : w_pair ≠ w_int := by decide
    have m2 : w_pair ≠ w_truth := by decide
    have m3 : w_pair ≠ w_unit := by decide
    rw [deepO_eq]
    simp [TT.d, kidsD, m1, m2, m3, comb, deep_tt a h.1, deep_tt b h.2, maxN, hgt, cnt, TT.high, TT.size]
  | .list a, h => by
    have m1 : w_list ≠ w_int := by decide
    have m2 : w_list ≠ w_truth := by decide
    have m3 : w_list ≠ w_unit := by decide
    have m4 : w_list ≠ w_pair := by decide
    rw [deepO_eq]
    simp [TT.d, kidsD, m1, m2, m3, m4, comb, deep_tt a h, maxN, hgt, cnt, TT.high, TT.size]
  | .fn a ls e b, h => by
    have m1 : w_fun ≠ w_int := by decide
    have m2 : w_fun ≠ w_truth := by decide
    have m3 : w_fun ≠ w_unit := by decide
    have m4 : w_fun ≠ w_pair := by decide
    have m5 : w_fun ≠ w_list := by decide
    rw [deepO_eq]
    simp [TT.d, kidsD, m1, m2, m3, m4, m5, comb, deep_tt a h.1, deep_tt b h.2.2.2, h.2.1, maxN, hgt, cnt, TT.high, TT.size]
/-- no tuple of tuples is longer than four -/
def isTupD : D → Bool
  | .tup _ => true
  | _ => false
mutual
def narrow : D → Bool
  | .tup xs => (!xs.all isTupD || decide (xs.length ≤ 4)) && narrows xs
  | .lst xs => narrows xs
  | _ => true
def narrows : List D → Bool
  | [] => true
  | x :: xs => narrow x && narrows xs
end
theorem narrow_mem : ∀ {us : List D}, narrows us = true → ∀ e ∈ us, narrow e = true
  | u :: us, h, e, he => by
    obtain ⟨h1, h2⟩ := Bool.and_eq_true_iff.mp (show (narrow u && narrows us) = true from h)
    rcases List.mem_cons.mp he with rfl | he
    · exact h1
    · exact narrow_mem h2 e he
theorem narrow_all {us : List D} (h : ∀ u ∈ us, narrow u = true) : narrows us = true := by
  induction us with
  | nil => rfl
  | cons u us ih => simp only [narrows, Bool.and_eq_true]; exact ⟨h u (by simp), ih fun x hx => h x (by simp [hx])⟩
theorem labels_few {ls : List D} (hl : ls.all labelD = true) (hn : narrow (.tup ls) = true) : ls.length ≤ 4 := by
  simp only [narrow, Bool.and_eq_true, Bool.or_eq_true, Bool.not_eq_true', decide_eq_true_eq] at hn
  rcases hn.1 with h | h
  · exfalso
    rw [List.all_eq_false] at h
    obtain ⟨l, hm, hl2⟩ := h
    obtain ⟨x, y, rfl, _, _⟩ := label_two (List.all_eq_true.mp hl l hm)
    exact hl2 rfl
  · exact h
/-- what is judged a type is a tree -/
theorem tree_of : ∀ (n : Nat) (d : D), sz d ≤ n → narrow d = true → (deepO d).isSome = true → ∃ τ : TT, d = τ.d ∧ τ.ok
  | 0, d, hs, _, _ => by have := sz_pos d; omega
  | n + 1, d, hs, hn, hd => by
    rw [deepO_eq] at hd
    cases hr : (kidsD d).2 with
    | false => rw [hr] at hd; cases hd
    | true =>
      rw [hr] at hd
      simp only [if_true] at hd
      have hk : ∀ k ∈ (kidsD d).1, (deepO k).isSome = true := fun k hk => by
        unfold comb at hd
        split at hd
        · rename_i h
          exact List.all_eq_true.mp h _ (List.mem_map.mpr ⟨k, hk, rfl⟩)
        · cases hd
      unfold kidsD at hr hk
      split at hr
      · rename_i w r
        have hnr : ∀ e ∈ r, narrow e = true := fun e he => by
          simp only [narrow, narrows, Bool.and_eq_true] at hn
          exact narrow_mem hn.2.2 e he
        have hsr : ∀ e ∈ r, sz e ≤ n := fun e he => by
          obtain ⟨s, t, rfl⟩ := List.append_of_mem he
          simp only [sz, szs, szs_app] at hs
          omega
        have one : ∀ {m : Nat}, ((r.length : Int) + 1 == (m : Int) + 1) = true → r.length = m := fun h => by
          rw [beq_iff_eq] at h
          omega
        by_cases e1 : w = w_int
        · simp only [e1, if_true] at hr
          have := one (m := 0) hr
          rw [List.length_eq_zero_iff] at this
          exact ⟨.base w, by rw [this]; rfl, .inl e1⟩
        simp only [if_neg e1] at hr hk
        by_cases e2 : w = w_truth
        · simp only [e2, if_true] at hr
          have := one (m := 0) hr
          rw [List.length_eq_zero_iff] at this
          exact ⟨.base w, by rw [this]; rfl, .inr (.inl e2)⟩
        simp only [if_neg e2] at hr hk
        by_cases e3 : w = w_unit
        · simp only [e3, if_true] at hr
          have := one (m := 0) hr
          rw [List.length_eq_zero_iff] at this
          exact ⟨.base w, by rw [this]; rfl, .inr (.inr e3)⟩
        simp only [if_neg e3] at hr hk
        by_cases e4 : w = w_pair
        · simp only [e4, if_true] at hr hk
          have := one (m := 2) hr
          obtain ⟨a, b, rfl⟩ : ∃ a b, r = [a, b] := by
            match r, this with
            | [a, b], _ => exact ⟨a, b, rfl⟩
          obtain ⟨α, ha, oa⟩ := tree_of n a (hsr a (by simp)) (hnr a (by simp)) (hk a (by simp))
          obtain ⟨β, hb, ob⟩ := tree_of n b (hsr b (by simp)) (hnr b (by simp)) (hk b (by simp))
          exact ⟨.pair α β, by rw [e4, ha, hb]; rfl, oa, ob⟩
        simp only [if_neg e4] at hr hk
        by_cases e5 : w = w_list
        · simp only [e5, if_true] at hr hk
          have := one (m := 1) hr
          obtain ⟨a, rfl⟩ := List.length_eq_one_iff.mp this
          obtain ⟨α, ha, oa⟩ := tree_of n a (hsr a (by simp)) (hnr a (by simp)) (hk a (by simp))
          exact ⟨.list α, by rw [e5, ha]; rfl, oa⟩
        simp only [if_neg e5] at hr hk
        by_cases e6 : w = w_fun
        · simp only [e6, if_true] at hr hk
          match r, hr, hk, hsr, hnr with
          | [a, row, b], hr, hk, hsr, hnr =>
            obtain ⟨α, ha, oa⟩ := tree_of n a (hsr a (by simp)) (hnr a (by simp)) (hk a (by simp))
            obtain ⟨β, hb, ob⟩ := tree_of n b (hsr b (by simp)) (hnr b (by simp)) (hk b (by simp))
            have hrow : rowB row = true := hr
            have hnrow := hnr row (by simp)
            obtain ⟨ls, e, rfl⟩ : ∃ ls e, row = .tup [.tup ls, e] := by
              unfold rowB at hrow
              split at hrow
              · exact ⟨_, _, rfl⟩
              · cases hrow
            have few : ls.length ≤ 4 := by
              simp only [narrow, narrows, Bool.and_eq_true] at hnrow
              have h0 := hrow
              simp only [rowB, Bool.and_eq_true] at h0
              refine labels_few h0.1.1.1 ?_
              simp only [narrow, Bool.and_eq_true]
              exact hnrow.2.1
            exact ⟨.fn α ls e β, by rw [e6, ha, hb]; rfl, oa, hrow, few, ob⟩
          | [], hr, _, _, _ => cases hr
          | [_], hr, _, _, _ => cases hr
          | [_, _], hr, _, _, _ => cases hr
          | _ :: _ :: _ :: _ :: _, hr, _, _, _ => cases hr
        simp only [if_neg e6] at hr hk
        by_cases e7 : w = w_own
        · simp only [e7, if_true] at hr
          match r, hr with
          | [x, y], hr =>
            rw [Bool.and_eq_true] at hr
            obtain ⟨h1, h2⟩ := hr
            cases x <;> first | cases h1 | skip
            cases y <;> first | cases h2 | skip
            exact ⟨.own _ _, by rw [e7]; rfl, h1, h2⟩
          | [], hr => cases hr
          | [_], hr => cases hr
          | _ :: _ :: _ :: _, hr => cases hr
        simp only [if_neg e7] at hr
        by_cases e8 : w = w_var
        · simp only [e8, if_true] at hr
          match r, hr with
          | [x], hr =>
            cases x <;> first | cases hr | skip
            rename_i i
            simp only [idxB, Bool.and_eq_true, decide_eq_true_eq] at hr
            exact ⟨.var i, by rw [e8]; rfl, hr⟩
          | [], hr => cases hr
          | _ :: _ :: _, hr => cases hr
        simp only [if_neg e8] at hr
        cases hr
      · cases hr
end LL
set_option Elab.async false
set_option linter.all false
set_option maxRecDepth 100000
set_option maxHeartbeats 4000000
/-! DwL9: the variables of a type. -/
namespace LL
open PySem PySem.Spec PyProof.Rows L2 Dw
def endV : D → List Int
  | .int i => [i]
  | _ => []
def TT.tv : TT → List Int
  | .var i => [i]
  | .pair a b => a.tv ++ b.tv
  | .list a => a.tv
  | .fn a _ _ b => a.tv ++ b.tv
  | _ => []
def TT.rv : TT → List Int
  | .pair a b => a.rv ++ b.rv
  | .list a => a.rv
  | .fn a _ e b => a.rv ++ (endV e ++ b.rv)
  | _ => []
def add1 (acc : List Int) (i : Int) : List Int := if i ∈ acc then acc else acc ++ [i]
def addAll (acc l : List Int) : List Int := l.foldl add1 acc
theorem addAll_app (acc x y : List Int) : addAll acc (x ++ y) = addAll (addAll acc x) y := List.foldl_append ..
theorem addAll_one (acc : List Int) (i : Int) : addAll acc [i] = add1 acc i := rfl
theorem addAll_nil (acc : List Int) : addAll acc [] = acc := rfl
theorem addAll_ne {acc l : List Int} (h : acc ≠ []) : addAll acc l ≠ [] := by
  induction l generalizing acc with
  | nil => exact h
  | cons i l ih =>
    refine ih ?_
    unfold add1
    split
    · exact h
    · simp
theorem addAll_empty (l : List Int) : (addAll [] l).isEmpty = l.isEmpty := by
  cases l with
  | nil => rfl
  | cons i l =>
    have : addAll (add1 [] i) l ≠ [] := addAll_ne (by simp [add1])
    show (addAll (add1 [] i) l).isEmpty = false
    cases h : addAll (add1 [] i) l with
    | nil => exact absurd h this
    | cons _ _ => rfl
/-- what waits: a type, a row -/
inductive IT where
  | ty (τ : TT)
  | row (ls : List D) (e : D)
def IT.d : IT → D
  | .ty τ => τ.d
  | .row ls e => .tup [.tup ls, e]
def IT.ok : IT → Prop
  | .ty τ => τ.ok
  | .row ls e => rowB (.tup [.tup ls, e]) = true
def IT.tv : IT → List Int
  | .ty τ => τ.tv
  | .row _ _ => []
def IT.rv : IT → List Int
  | .ty τ => τ.rv
  | .row _ e => endV e
def IT.size : IT → Nat
  | .ty τ => 2 * τ.size
  | .row _ _ => 1
def sizes : List IT → Nat
  | [] => 0
  | x :: xs => x.size + sizes xs
theorem sizes_app (x y : List IT) : sizes (x ++ y) = sizes x + sizes y := by
  induction x with
  | nil => simp [sizes]
  | cons a x ih => simp only [List.cons_append, sizes, ih]; omega
theorem tsize_pos (τ : TT) : 1 ≤ τ.size := by cases τ <;> simp [TT.size] <;> omega
theorem isize_pos (x : IT) : 1 ≤ x.size := by
  cases x with
  | ty τ => have := tsize_pos τ; simp [IT.size]; omega
  | row _ _ => simp [IT.size]
theorem sizes_len (xs : List IT) : xs.length ≤ sizes xs := by
  induction xs with
  | nil => exact Nat.zero_le _
  | cons x xs ih =>
    have := isize_pos x
    simp only [List.length_cons, sizes]
    omega
theorem it_plain (x : IT) (h : x.ok) : plainD x.d = true := by
  cases x with
  | ty τ => exact tt_plain τ h
  | row ls e => exact row_plain h
theorem its_plain {xs : List IT} (h : ∀ x ∈ xs, x.ok) : plainDs (xs.map IT.d) = true := plain_all fun u hu => by
  obtain ⟨x, hx, rfl⟩ := List.mem_map.mp hu
  exact it_plain x (h x hx)
/-- what a type opens to -/
def TT.open_ : TT → List IT
  | .pair a b => [.ty a, .ty b]
  | .list a => [.ty a]
  | .fn a ls e b => [.ty a, .row ls e, .ty b]
  | _ => []
theorem ints_mem (xs : List Int) (i : Int) : ((xs.map D.int).any fun z => eqD z (.int i)) = decide (i ∈ xs) := by
  induction xs with
  | nil => rfl
  | cons x xs ih =>
    rw [List.map_cons, List.any_cons, ih]
    show (x == i || _) = _
    by_cases h : x = i
    · subst h; simp
    · have : (x == i) = false := by simpa using h
      have h' : ¬i = x := fun z => h z.symm
      simp [this, h']
theorem ints_mem2 (xs : List Int) (i : Int) : (xs.any ((fun z => eqD z (.int i)) ∘ D.int)) = decide (i ∈ xs) := by
  rw [← ints_mem, List.any_map]
theorem plain_ints' (xs : List Int) : plainDs (xs.map D.int) = true := plain_ints xs
theorem var_ne : (w_var == w_var) = true := by decide
/-- what stands at each turn of variables -/
def VW (M : DM) (τ : TT) (a1 a2 a3 : Addr) : Nat → DS → DM → Prop := fun m δ M1 => ∃ (st : List IT) (ts rs : List Int) (e4 e5 : Option D), δ = [some τ.d, some (.ref a1), some (.ref a2), some (.ref a3), e4, e5] ∧ M1 a1 = some (.lst (st.map IT.d).reverse) ∧ M1 a2 = some (.lst (ts.map D.int)) ∧ M1 a3 = some (.lst (rs.map D.int)) ∧ Kept M M1 ∧
    (∀ x ∈ st, x.ok) ∧ addAll ts (st.flatMap IT.tv) = addAll [] τ.tv ∧ addAll rs (st.flatMap IT.rv) = addAll [] τ.rv ∧ m = sizes st ∧ ts.length + m ≤ 300000 ∧ rs.length + m ≤ 300000
theorem st1 {α : Type} (a : α) : stepD [a] none (some 0) (-1) = [] := rfl
theorem st2 {α : Type} (a b : α) : stepD [a, b] none (some 0) (-1) = [b] := by
  have e1 : Builtin.Slice.sliceAdjust none (some 0) (-1) (2 : Int) = (1, 0) := by decide
  have e2 : Builtin.Slice.slicePlaces 1 0 (-1) = 1 := by decide
  have e3 : (([a, b] : List α).length : Int) = 2 := rfl
  unfold stepD
  rw [e3, e1, e2]
  rfl
theorem st3 {α : Type} (a b c : α) : stepD [a, b, c] none (some 0) (-1) = [c, b] := by
  have e1 : Builtin.Slice.sliceAdjust none (some 0) (-1) (3 : Int) = (2, 0) := by decide
  have e2 : Builtin.Slice.slicePlaces 2 0 (-1) = 2 := by decide
  have e3 : (([a, b, c] : List α).length : Int) = 3 := rfl
  unfold stepD
  rw [e3, e1, e2]
  rfl
theorem st4 {α : Type} (a b c e : α) : stepD [a, b, c, e] none (some 0) (-1) = [e, c, b] := by
  have e1 : Builtin.Slice.sliceAdjust none (some 0) (-1) (4 : Int) = (3, 0) := by decide
  have e2 : Builtin.Slice.slicePlaces 3 0 (-1) = 3 := by decide
  have e3 : (([a, b, c, e] : List α).length : Int) = 4 := rfl
  unfold stepD
  rw [e3, e1, e2]
  rfl
theorem isT_tup (xs : List D) : isTupD (.tup xs) = true := rfl
theorem isT_str (x : List Nat) : isTupD (.str x) = false := rfl
theorem tt_isT (τ : TT) : isTupD τ.d = true := by cases τ <;> rfl
theorem tt_tup (τ : TT) : ∃ xs, τ.d = .tup xs := by cases τ <;> exact ⟨_, rfl⟩
section
variable {pg : Pg} (B : Base pg) {j : Nat} {M : DM} {Qx : QX} {Q : QD}
include B
theorem variables_at {τ : TT} (hj : 1 ≤ j) (ok : τ.ok) (hs : τ.size ≤ 100000) (hQ : Q (.tup [.tup ((addAll [] τ.tv).map D.int), .tup ((addAll [] τ.rv).map D.int)]) M) : (callW pg j).run B.i_variables [τ.d] M Qx Q := by
  obtain ⟨k, rfl⟩ : ∃ k, j = k + 1 := ⟨j - 1, by omega⟩
  rw [callW_run B.h_variables]
  refine ⟨rfl, rfl, ?_⟩
  simp [Dw.wpT, wpE, wpA, wpI, wpO, wpSs, Dw.wpS, res, lookD, cmpR, ifD, truthD, backQ, backX, Dw.start, isiR, isTys, isTy, notR, bltR, lenOf, seqOf, okEq, okIn, plainD, plainDs, deepD, deepDs, eq_ss, eq_tt, eq_ll, eqDs, idxR, setDs, Dw.inR, slcV, newL, sameC, mthR, rcvOk, lstAt, resM, tgT, tgTs, Dw.augR, Dw.intD, updM_same, seqI, resI, binR, negR, anyM, flat_tup, flat_str, flat_int, flat_lst, flat_bl, flat_non, f_variables]
  intro a2 h2 a3 h3 a1 h1
  have n32 : a3 ≠ a2 := fun e => by subst e; rw [updM_same] at h3; cases h3
  have n12 : a1 ≠ a2 := fun e => by
    subst e
    rw [updM_ne n32.symm, updM_same] at h1
    cases h1
  have n13 : a1 ≠ a3 := fun e => by subst e; rw [updM_same] at h1; cases h1
  have hM3 : M a3 = none := by rw [← h3, updM_ne n32]
  have hM1 : M a1 = none := by rw [← h1, updM_ne n13, updM_ne n12]
  have kp : ∀ {M1 : DM}, Kept M M1 → ∀ a X, M a = none → Kept M (updM M1 a X) := fun hk a X hn b mo hb => by
    rw [updM_ne (fun e => by subst e; rw [hn] at hb; cases hb)]
    exact hk b mo hb
  refine ⟨VW M τ a1 a2 a3, ?_, ?_⟩
  · refine ⟨2 * τ.size, [.ty τ], [], [], none, none, rfl, updM_same, ?_, ?_, ?_, ?_, ?_, ?_, ?_, ?_, ?_⟩
    · rw [updM_ne n12.symm, updM_ne n32.symm, updM_same]; rfl
    · rw [updM_ne n13.symm, updM_same]; rfl
    · exact kp (kp (kp (fun b mo hb => hb) a2 _ h2) a3 _ hM3) a1 _ hM1
    · simpa [IT.ok] using ok
    · simp [IT.tv]
    · simp [IT.rv]
    · simp [sizes, IT.size]
    · simp; omega
    · simp; omega
  · rintro m δ M1 ⟨st, ts, rs, e4, e5, rfl, k1, k2, k3, hk, hok, ht, hr, hm, b1, b2⟩
    have hf : flatR M1 (.ref a1) = .lst (st.map IT.d).reverse := by simp [flatR, k1]
    cases st with
    | nil =>
      simp [addAll_nil] at ht hr
      simp [Dw.wpT, wpE, wpA, wpI, wpO, wpSs, Dw.wpS, res, lookD, cmpR, ifD, truthD, backQ, backX, Dw.start, isiR, isTys, isTy, notR, bltR, lenOf, seqOf, okEq, okIn, plainD, plainDs, deepD, deepDs, eq_ss, eq_tt, eq_ll, eqDs, idxR, setDs, Dw.inR, slcV, newL, sameC, mthR, rcvOk, lstAt, resM, tgT, tgTs, Dw.augR, Dw.intD, updM_same, seqI, resI, binR, negR, anyM, flat_tup, flat_str, flat_int, flat_lst, flat_bl, flat_non, f_variables, hf, k2, k3]
      refine ⟨⟨plain_ints _, plain_ints _⟩, hk, ?_⟩
      rw [ht, hr]
      exact hQ
    | cons x st =>
      have k1' : M1 a1 = some (.lst ((st.map IT.d).reverse ++ [x.d])) := by simpa using k1
      have hf' : flatR M1 (.ref a1) = .lst ((st.map IT.d).reverse ++ [x.d]) := by simp [flatR, k1']
      have e0 : eqDs ((st.map IT.d).reverse ++ [x.d]) [] = false := by cases (st.map IT.d).reverse <;> rfl
      have pp : plainDs ((st.map IT.d).reverse ++ [x.d]) = true := by
        have := its_plain (xs := (x :: st).reverse) fun y hy => hok y (List.mem_reverse.mp hy)
        simpa using this
      simp [Dw.wpT, wpE, wpA, wpI, wpO, wpSs, Dw.wpS, res, lookD, cmpR, ifD, truthD, backQ, backX, Dw.start, isiR, isTys, isTy, notR, bltR, lenOf, seqOf, okEq, okIn, plainD, plainDs, deepD, deepDs, eq_ss, eq_tt, eq_ll, eqDs, idxR, setDs, Dw.inR, slcV, newL, sameC, mthR, rcvOk, lstAt, resM, tgT, tgTs, Dw.augR, Dw.intD, updM_same, seqI, resI, binR, negR, anyM, flat_tup, flat_str, flat_int, flat_lst, flat_bl, flat_non, f_variables, hf', e0, pp, k1']
      have hx := hok x (by simp)
      have hok' : ∀ y ∈ st, y.ok := fun y hy => hok y (List.mem_cons_of_mem _ hy)
      have sx := isize_pos x
      have hm' : m = x.size + sizes st := hm
      have u2 : updM M1 a1 (.lst (st.map IT.d).reverse) a2 = some (.lst (ts.map D.int)) := by rw [updM_ne n12.symm]; exact k2
      have u3 : updM M1 a1 (.lst (st.map IT.d).reverse) a3 = some (.lst (rs.map D.int)) := by rw [updM_ne n13.symm]; exact k3
      have hkx := kp hk a1 (.lst (st.map IT.d).reverse) hM1
      rw [List.flatMap_cons, addAll_app] at ht hr
      have nxt : ∀ {ts' rs' : List Int} {e4 e5 : Option D} {M2 : DM}, M2 a1 = some (.lst (st.map IT.d).reverse) → M2 a2 = some (.lst (ts'.map D.int)) → M2 a3 = some (.lst (rs'.map D.int)) → Kept M M2 → addAll ts x.tv = ts' → addAll rs x.rv = rs' → ts'.length ≤ ts.length + 1 → rs'.length ≤ rs.length + 1 →
          ∃ m', m' < m ∧ VW M τ a1 a2 a3 m' [some τ.d, some (.ref a1), some (.ref a2), some (.ref a3), e4, e5] M2 := by
        rintro ts' rs' e4 e5 M2 q1 q2 q3 q4 rfl rfl q7 q8
        exact ⟨sizes st, by omega, st, _, _, e4, e5, rfl, q1, q2, q3, q4, hok', ht, hr, rfl, by omega, by omega⟩
      cases x with
      | row ls e =>
        have he : e = .non ∨ ∃ i, e = .int i := by
          have h0 : rowB (.tup [.tup ls, e]) = true := hx
          simp only [rowB, Bool.and_eq_true, Bool.or_eq_true] at h0
          rcases h0.2 with h | h
          · cases e <;> first | exact .inl rfl | cases h
          · cases e <;> first | exact .inr ⟨_, rfl⟩ | cases h
        rcases he with rfl | ⟨i, rfl⟩
        · simp [Dw.wpT, wpE, wpA, wpI, wpO, wpSs, Dw.wpS, res, lookD, cmpR, ifD, truthD, backQ, backX, Dw.start, isiR, isTys, isTy, notR, bltR, lenOf, seqOf, okEq, okIn, plainD, plainDs, deepD, deepDs, eq_ss, eq_tt, eq_ll, eqDs, idxR, setDs, Dw.inR, slcV, newL, sameC, mthR, rcvOk, lstAt, resM, tgT, tgTs, Dw.augR, Dw.intD, updM_same, seqI, resI, binR, negR, anyM, flat_tup, flat_str, flat_int, flat_lst, flat_bl, flat_non, IT.d, ixD]
          exact nxt updM_same u2 u3 hkx rfl rfl (by simp [IT.tv, addAll]) (by simp [IT.rv, endV, addAll])
        · simp [Dw.wpT, wpE, wpA, wpI, wpO, wpSs, Dw.wpS, res, lookD, cmpR, ifD, truthD, backQ, backX, Dw.start, isiR, isTys, isTy, notR, bltR, lenOf, seqOf, okEq, okIn, plainD, plainDs, deepD, deepDs, eq_ss, eq_tt, eq_ll, eqDs, idxR, setDs, Dw.inR, slcV, newL, sameC, mthR, rcvOk, lstAt, resM, tgT, tgTs, Dw.augR, Dw.intD, updM_same, seqI, resI, binR, negR, anyM, flat_tup, flat_str, flat_int, flat_lst, flat_bl, flat_non, IT.d, ixD, u3, ints_mem2, plain_ints, deep_ints]
          by_cases hi : i ∈ rs
          · simp [hi]
            exact nxt updM_same u2 u3 hkx rfl (by simp [IT.rv, endV, addAll, add1, hi]) (by simp [IT.tv, addAll]) (by omega)
          · simp [hi]
            refine ⟨by unfold sizeLine; omega, ?_⟩
            refine nxt (rs' := rs ++ [i]) ?_ ?_ ?_ ?_ rfl (by simp [IT.rv, endV, addAll, add1, hi]) (by simp [IT.tv, addAll]) (by simp)
            · rw [updM_ne n13, updM_same]
            · rw [updM_ne n32.symm]; exact u2
            · rw [updM_same]; simp
            · exact kp hkx a3 _ hM3
      | ty σ =>
        have nop : ∀ {ks : List IT} {e4 e5 : Option D} {M2 : DM}, M2 a1 = some (.lst ((st.map IT.d).reverse ++ (ks.map IT.d).reverse)) → M2 a2 = some (.lst (ts.map D.int)) → M2 a3 = some (.lst (rs.map D.int)) → Kept M M2 → (∀ y ∈ ks, y.ok) → ks.flatMap IT.tv = σ.tv → ks.flatMap IT.rv = σ.rv → sizes ks < 2 * σ.size →
            ∃ m', m' < m ∧ VW M τ a1 a2 a3 m' [some τ.d, some (.ref a1), some (.ref a2), some (.ref a3), e4, e5] M2 := by
          rintro ks e4 e5 M2 q1 q2 q3 q4 q5 q6 q7 q8
          have e1 : m = 2 * σ.size + sizes st := hm'
          refine ⟨sizes (ks ++ st), by rw [sizes_app]; omega, ks ++ st, ts, rs, e4, e5, rfl, by simpa using q1, q2, q3, q4, fun y hy => ?_, ?_, ?_, rfl, by rw [sizes_app]; omega, by rw [sizes_app]; omega⟩
          · rcases List.mem_append.mp hy with hy | hy
            · exact q5 y hy
            · exact hok' y hy
          · rw [List.flatMap_append, addAll_app, q6]
            exact ht
          · rw [List.flatMap_append, addAll_app, q7]
            exact hr
        have keep : ∀ (b : Addr), b ≠ a1 → ∀ X, updM (updM M1 a1 (.lst (st.map IT.d).reverse)) a1 X b = M1 b := fun b hb X => by rw [updM_ne hb, updM_ne hb]
        cases σ with
        | var i =>
          simp [Dw.wpT, wpE, wpA, wpI, wpO, wpSs, Dw.wpS, res, lookD, cmpR, ifD, truthD, backQ, backX, Dw.start, isiR, isTys, isTy, notR, bltR, lenOf, seqOf, okEq, okIn, plainD, plainDs, deepD, deepDs, eq_ss, eq_tt, eq_ll, eqDs, idxR, setDs, Dw.inR, slcV, newL, sameC, mthR, rcvOk, lstAt, resM, tgT, tgTs, Dw.augR, Dw.intD, updM_same, seqI, resI, binR, negR, anyM, flat_tup, flat_str, flat_int, flat_lst, flat_bl, flat_non, IT.d, TT.d, ixD, ww, u2, ints_mem2, plain_ints, deep_ints]
          by_cases hi : i ∈ ts
          · simp [hi]
            exact nxt updM_same u2 u3 hkx (by simp [IT.tv, TT.tv, addAll, add1, hi]) rfl (by omega) (by simp [IT.rv, TT.rv, addAll])
          · simp [hi]
            refine ⟨by unfold sizeLine; omega, ?_⟩
            refine nxt (ts' := ts ++ [i]) ?_ ?_ ?_ ?_ (by simp [IT.tv, TT.tv, addAll, add1, hi]) rfl (by simp) (by simp [IT.rv, TT.rv, addAll])
            · rw [updM_ne n12, updM_same]
            · rw [updM_same]; simp
            · rw [updM_ne n32]; exact u3
            · exact kp hkx a2 _ h2
        | base w =>
          have hw : (w == w_var) = false := by
            rcases (show w = w_int ∨ w = w_truth ∨ w = w_unit from hx) with rfl | rfl | rfl <;> decide
          simp [Dw.wpT, wpE, wpA, wpI, wpO, wpSs, Dw.wpS, res, lookD, cmpR, ifD, truthD, backQ, backX, Dw.start, isiR, isTys, isTy, notR, bltR, lenOf, seqOf, okEq, okIn, plainD, plainDs, deepD, deepDs, eq_ss, eq_tt, eq_ll, eqDs, idxR, setDs, Dw.inR, slcV, newL, sameC, mthR, rcvOk, lstAt, resM, tgT, tgTs, Dw.augR, Dw.intD, updM_same, seqI, resI, binR, negR, anyM, flat_tup, flat_str, flat_int, flat_lst, flat_bl, flat_non, IT.d, TT.d, ixD, hw, stpR, st1, sizeLine]
          simp [lcTurns, anyM, newL]
          have hl := sizes_len st
          try simp [Dw.wpT, wpE, wpA, wpI, wpO, wpSs, Dw.wpS, res, lookD, cmpR, ifD, truthD, backQ, backX, Dw.start, isiR, isTys, isTy, notR, bltR, lenOf, seqOf, okEq, okIn, plainD, plainDs, deepD, deepDs, eq_ss, eq_tt, eq_ll, eqDs, idxR, setDs, Dw.inR, slcV, newL, sameC, mthR, rcvOk, lstAt, resM, tgT, tgTs, Dw.augR, Dw.intD, updM_same, seqI, resI, binR, negR, anyM, flat_tup, flat_str, flat_int, flat_lst, flat_bl, flat_non]
          refine ⟨by omega, ?_⟩
          refine nop (ks := []) ?_ ?_ ?_ ?_ ?_ ?_ ?_ ?_
          · rw [updM_same]; simp
          · rw [keep a2 n12.symm]; exact k2
          · rw [keep a3 n13.symm]; exact k3
          · exact kp hkx a1 _ hM1
          · simp
          · rfl
          · rfl
          · simp [sizes, TT.size]
        | own x y =>
          simp [Dw.wpT, wpE, wpA, wpI, wpO, wpSs, Dw.wpS, res, lookD, cmpR, ifD, truthD, backQ, backX, Dw.start, isiR, isTys, isTy, notR, bltR, lenOf, seqOf, okEq, okIn, plainD, plainDs, deepD, deepDs, eq_ss, eq_tt, eq_ll, eqDs, idxR, setDs, Dw.inR, slcV, newL, sameC, mthR, rcvOk, lstAt, resM, tgT, tgTs, Dw.augR, Dw.intD, updM_same, seqI, resI, binR, negR, anyM, flat_tup, flat_str, flat_int, flat_lst, flat_bl, flat_non, IT.d, TT.d, ixD, ww, stpR, st3, sizeLine]
          refine lc_keep (M := updM M1 a1 (.lst (st.map IT.d).reverse)) (p := isTupD) ?_ _ _ (fun e he R N h => ?_) ?_
          · trivial
          · simp only [List.mem_cons, List.not_mem_nil, or_false] at he
            rcases he with rfl | rfl
            · simp [Dw.wpT, wpE, wpA, wpI, wpO, wpSs, Dw.wpS, res, lookD, cmpR, ifD, truthD, backQ, backX, Dw.start, isiR, isTys, isTy, notR, bltR, lenOf, seqOf, okEq, okIn, plainD, plainDs, deepD, deepDs, eq_ss, eq_tt, eq_ll, eqDs, idxR, setDs, Dw.inR, slcV, newL, sameC, mthR, rcvOk, lstAt, resM, tgT, tgTs, Dw.augR, Dw.intD, updM_same, seqI, resI, binR, negR, anyM, flat_tup, flat_str, flat_int, flat_lst, flat_bl, flat_non, wipeD, Dw.wpC]
              exact h
            · simp [Dw.wpT, wpE, wpA, wpI, wpO, wpSs, Dw.wpS, res, lookD, cmpR, ifD, truthD, backQ, backX, Dw.start, isiR, isTys, isTy, notR, bltR, lenOf, seqOf, okEq, okIn, plainD, plainDs, deepD, deepDs, eq_ss, eq_tt, eq_ll, eqDs, idxR, setDs, Dw.inR, slcV, newL, sameC, mthR, rcvOk, lstAt, resM, tgT, tgTs, Dw.augR, Dw.intD, updM_same, seqI, resI, binR, negR, anyM, flat_tup, flat_str, flat_int, flat_lst, flat_bl, flat_non, wipeD, Dw.wpC]
              exact h
          · simp only [List.nil_append]
            have hl := sizes_len st
            simp [Dw.wpT, wpE, wpA, wpI, wpO, wpSs, Dw.wpS, res, lookD, cmpR, ifD, truthD, backQ, backX, Dw.start, isiR, isTys, isTy, notR, bltR, lenOf, seqOf, okEq, okIn, plainD, plainDs, deepD, deepDs, eq_ss, eq_tt, eq_ll, eqDs, idxR, setDs, Dw.inR, slcV, newL, sameC, mthR, rcvOk, lstAt, resM, tgT, tgTs, Dw.augR, Dw.intD, updM_same, seqI, resI, binR, negR, anyM, flat_tup, flat_str, flat_int, flat_lst, flat_bl, flat_non, isT_tup, isT_str, tt_isT]
            refine ⟨by omega, ?_⟩
            refine nop (ks := []) ?_ ?_ ?_ ?_ ?_ ?_ ?_ ?_
            · rw [updM_same]; simp [IT.d, TT.d, isT_tup, isT_str, tt_isT]
            · rw [keep a2 n12.symm]; exact k2
            · rw [keep a3 n13.symm]; exact k3
            · exact kp hkx a1 _ hM1
            · simpa [IT.ok, TT.ok] using hx
            · simp [IT.tv, TT.tv]
            · simp [IT.rv, TT.rv]
            · simp [sizes, IT.size, TT.size] <;> omega
        | pair p q =>
          simp [Dw.wpT, wpE, wpA, wpI, wpO, wpSs, Dw.wpS, res, lookD, cmpR, ifD, truthD, backQ, backX, Dw.start, isiR, isTys, isTy, notR, bltR, lenOf, seqOf, okEq, okIn, plainD, plainDs, deepD, deepDs, eq_ss, eq_tt, eq_ll, eqDs, idxR, setDs, Dw.inR, slcV, newL, sameC, mthR, rcvOk, lstAt, resM, tgT, tgTs, Dw.augR, Dw.intD, updM_same, seqI, resI, binR, negR, anyM, flat_tup, flat_str, flat_int, flat_lst, flat_bl, flat_non, IT.d, TT.d, ixD, ww, stpR, st3, sizeLine]
          refine lc_keep (M := updM M1 a1 (.lst (st.map IT.d).reverse)) (p := isTupD) ?_ _ _ (fun e he R N h => ?_) ?_
          · trivial
          · simp only [List.mem_cons, List.not_mem_nil, or_false] at he
            obtain ⟨xs, hp⟩ := tt_tup p
            obtain ⟨ys, hq⟩ := tt_tup q
            rcases he with rfl | rfl
            · rw [hq] at h ⊢
              simp [Dw.wpT, wpE, wpA, wpI, wpO, wpSs, Dw.wpS, res, lookD, cmpR, ifD, truthD, backQ, backX, Dw.start, isiR, isTys, isTy, notR, bltR, lenOf, seqOf, okEq, okIn, plainD, plainDs, deepD, deepDs, eq_ss, eq_tt, eq_ll, eqDs, idxR, setDs, Dw.inR, slcV, newL, sameC, mthR, rcvOk, lstAt, resM, tgT, tgTs, Dw.augR, Dw.intD, updM_same, seqI, resI, binR, negR, anyM, flat_tup, flat_str, flat_int, flat_lst, flat_bl, flat_non, wipeD, Dw.wpC]
              exact h
            · rw [hp] at h ⊢
              simp [Dw.wpT, wpE, wpA, wpI, wpO, wpSs, Dw.wpS, res, lookD, cmpR, ifD, truthD, backQ, backX, Dw.start, isiR, isTys, isTy, notR, bltR, lenOf, seqOf, okEq, okIn, plainD, plainDs, deepD, deepDs, eq_ss, eq_tt, eq_ll, eqDs, idxR, setDs, Dw.inR, slcV, newL, sameC, mthR, rcvOk, lstAt, resM, tgT, tgTs, Dw.augR, Dw.intD, updM_same, seqI, resI, binR, negR, anyM, flat_tup, flat_str, flat_int, flat_lst, flat_bl, flat_non, wipeD, Dw.wpC]
              exact h
          · simp only [List.nil_append]
            have hl := sizes_len st
            simp [Dw.wpT, wpE, wpA, wpI, wpO, wpSs, Dw.wpS, res, lookD, cmpR, ifD, truthD, backQ, backX, Dw.start, isiR, isTys, isTy, notR, bltR, lenOf, seqOf, okEq, okIn, plainD, plainDs, deepD, deepDs, eq_ss, eq_tt, eq_ll, eqDs, idxR, setDs, Dw.inR, slcV, newL, sameC, mthR, rcvOk, lstAt, resM, tgT, tgTs, Dw.augR, Dw.intD, updM_same, seqI, resI, binR, negR, anyM, flat_tup, flat_str, flat_int, flat_lst, flat_bl, flat_non, isT_tup, isT_str, tt_isT]
            refine ⟨by omega, ?_⟩
            refine nop (ks := [.ty p, .ty q]) ?_ ?_ ?_ ?_ ?_ ?_ ?_ ?_
            · rw [updM_same]; simp [IT.d, TT.d, isT_tup, isT_str, tt_isT]
            · rw [keep a2 n12.symm]; exact k2
            · rw [keep a3 n13.symm]; exact k3
            · exact kp hkx a1 _ hM1
            · simpa [IT.ok, TT.ok] using hx
            · simp [IT.tv, TT.tv]
            · simp [IT.rv, TT.rv]
            · simp [sizes, IT.size, TT.size] <;> omega
        | list p =>
          simp [Dw.wpT, wpE, wpA, wpI, wpO, wpSs, Dw.wpS, res, lookD, cmpR, ifD, truthD, backQ, backX, Dw.start, isiR, isTys, isTy, notR, bltR, lenOf, seqOf, okEq, okIn, plainD, plainDs, deepD, deepDs, eq_ss, eq_tt, eq_ll, eqDs, idxR, setDs, Dw.inR, slcV, newL, sameC, mthR, rcvOk, lstAt, resM, tgT, tgTs, Dw.augR, Dw.intD, updM_same, seqI, resI, binR, negR, anyM, flat_tup, flat_str, flat_int, flat_lst, flat_bl, flat_non, IT.d, TT.d, ixD, ww, stpR, st2, sizeLine]
          refine lc_keep (M := updM M1 a1 (.lst (st.map IT.d).reverse)) (p := isTupD) ?_ _ _ (fun e he R N h => ?_) ?_
          · trivial
          · simp only [List.mem_cons, List.not_mem_nil, or_false] at he
            obtain ⟨xs, hp⟩ := tt_tup p
            subst he
            rw [hp] at h ⊢
            simp [Dw.wpT, wpE, wpA, wpI, wpO, wpSs, Dw.wpS, res, lookD, cmpR, ifD, truthD, backQ, backX, Dw.start, isiR, isTys, isTy, notR, bltR, lenOf, seqOf, okEq, okIn, plainD, plainDs, deepD, deepDs, eq_ss, eq_tt, eq_ll, eqDs, idxR, setDs, Dw.inR, slcV, newL, sameC, mthR, rcvOk, lstAt, resM, tgT, tgTs, Dw.augR, Dw.intD, updM_same, seqI, resI, binR, negR, anyM, flat_tup, flat_str, flat_int, flat_lst, flat_bl, flat_non, wipeD, Dw.wpC]
            exact h
          · simp only [List.nil_append]
            have hl := sizes_len st
            simp [Dw.wpT, wpE, wpA, wpI, wpO, wpSs, Dw.wpS, res, lookD, cmpR, ifD, truthD, backQ, backX, Dw.start, isiR, isTys, isTy, notR, bltR, lenOf, seqOf, okEq, okIn, plainD, plainDs, deepD, deepDs, eq_ss, eq_tt, eq_ll, eqDs, idxR, setDs, Dw.inR, slcV, newL, sameC, mthR, rcvOk, lstAt, resM, tgT, tgTs, Dw.augR, Dw.intD, updM_same, seqI, resI, binR, negR, anyM, flat_tup, flat_str, flat_int, flat_lst, flat_bl, flat_non, isT_tup, isT_str, tt_isT]
            refine ⟨by omega, ?_⟩
            refine nop (ks := [.ty p]) ?_ ?_ ?_ ?_ ?_ ?_ ?_ ?_
            · rw [updM_same]; simp [IT.d, TT.d, isT_tup, isT_str, tt_isT]
            · rw [keep a2 n12.symm]; exact k2
            · rw [keep a3 n13.symm]; exact k3
            · exact kp hkx a1 _ hM1
            · simpa [IT.ok, TT.ok] using hx
            · simp [IT.tv, TT.tv]
            · simp [IT.rv, TT.rv]
            · simp [sizes, IT.size, TT.size] <;> omega
        | fn p ls e q =>
          simp [Dw.wpT, wpE, wpA, wpI, wpO, wpSs, Dw.wpS, res, lookD, cmpR, ifD, truthD, backQ, backX, Dw.start, isiR, isTys, isTy, notR, bltR, lenOf, seqOf, okEq, okIn, plainD, plainDs, deepD, deepDs, eq_ss, eq_tt, eq_ll, eqDs, idxR, setDs, Dw.inR, slcV, newL, sameC, mthR, rcvOk, lstAt, resM, tgT, tgTs, Dw.augR, Dw.intD, updM_same, seqI, resI, binR, negR, anyM, flat_tup, flat_str, flat_int, flat_lst, flat_bl, flat_non, IT.d, TT.d, ixD, ww, stpR, st4, sizeLine]
          refine lc_keep (M := updM M1 a1 (.lst (st.map IT.d).reverse)) (p := isTupD) ?_ _ _ (fun e he R N h => ?_) ?_
          · trivial
          · simp only [List.mem_cons, List.not_mem_nil, or_false] at he
            obtain ⟨xs, hp⟩ := tt_tup p
            obtain ⟨ys, hq⟩ := tt_tup q
            rcases he with rfl | rfl | rfl
            · rw [hq] at h ⊢
              simp [Dw.wpT, wpE, wpA, wpI, wpO, wpSs, Dw.wpS, res, lookD, cmpR, ifD, truthD, backQ, backX, Dw.start, isiR, isTys, isTy, notR, bltR, lenOf, seqOf, okEq, okIn, plainD, plainDs, deepD, deepDs, eq_ss, eq_tt, eq_ll, eqDs, idxR, setDs, Dw.inR, slcV, newL, sameC, mthR, rcvOk, lstAt, resM, tgT, tgTs, Dw.augR, Dw.intD, updM_same, seqI, resI, binR, negR, anyM, flat_tup, flat_str, flat_int, flat_lst, flat_bl, flat_non, wipeD, Dw.wpC]
              exact h
            · simp [Dw.wpT, wpE, wpA, wpI, wpO, wpSs, Dw.wpS, res, lookD, cmpR, ifD, truthD, backQ, backX, Dw.start, isiR, isTys, isTy, notR, bltR, lenOf, seqOf, okEq, okIn, plainD, plainDs, deepD, deepDs, eq_ss, eq_tt, eq_ll, eqDs, idxR, setDs, Dw.inR, slcV, newL, sameC, mthR, rcvOk, lstAt, resM, tgT, tgTs, Dw.augR, Dw.intD, updM_same, seqI, resI, binR, negR, anyM, flat_tup, flat_str, flat_int, flat_lst, flat_bl, flat_non, wipeD, Dw.wpC]
              exact h
            · rw [hp] at h ⊢
              simp [Dw.wpT, wpE, wpA, wpI, wpO, wpSs, Dw.wpS, res, lookD, cmpR, ifD, truthD, backQ, backX, Dw.start, isiR, isTys, isTy, notR, bltR, lenOf, seqOf, okEq, okIn, plainD, plainDs, deepD, deepDs, eq_ss, eq_tt, eq_ll, eqDs, idxR, setDs, Dw.inR, slcV, newL, sameC, mthR, rcvOk, lstAt, resM, tgT, tgTs, Dw.augR, Dw.intD, updM_same, seqI, resI, binR, negR, anyM, flat_tup, flat_str, flat_int, flat_lst, flat_bl, flat_non, wipeD, Dw.wpC]
              exact h
          · have ef : List.filter isTupD [q.d, .tup [.tup ls, e], p.d] = [q.d, .tup [.tup ls, e], p.d] := by
              rw [List.filter_cons_of_pos (tt_isT q), List.filter_cons_of_pos (isT_tup _), List.filter_cons_of_pos (tt_isT p)]
              rfl
            simp only [List.nil_append, ef]
            have hl := sizes_len st
            simp [Dw.wpT, wpE, wpA, wpI, wpO, wpSs, Dw.wpS, res, lookD, cmpR, ifD, truthD, backQ, backX, Dw.start, isiR, isTys, isTy, notR, bltR, lenOf, seqOf, okEq, okIn, plainD, plainDs, deepD, deepDs, eq_ss, eq_tt, eq_ll, eqDs, idxR, setDs, Dw.inR, slcV, newL, sameC, mthR, rcvOk, lstAt, resM, tgT, tgTs, Dw.augR, Dw.intD, updM_same, seqI, resI, binR, negR, anyM, flat_tup, flat_str, flat_int, flat_lst, flat_bl, flat_non, isT_tup, isT_str, tt_isT]
            refine ⟨by omega, ?_⟩
            refine nop (ks := [.ty p, .row ls e, .ty q]) ?_ ?_ ?_ ?_ ?_ ?_ ?_ ?_
            · rw [updM_same]; simp [IT.d, TT.d]
            · rw [keep a2 n12.symm]; exact k2
            · rw [keep a3 n13.symm]; exact k3
            · exact kp hkx a1 _ hM1
            · have h4 : p.ok ∧ rowB (.tup [.tup ls, e]) = true ∧ ls.length ≤ 4 ∧ q.ok := hx
              simpa [IT.ok] using ⟨h4.1, h4.2.1, h4.2.2.2⟩
            · simp [IT.tv, TT.tv]
            · simp [IT.rv, TT.rv]
            · simp [sizes, IT.size, TT.size] <;> omega
end
end LL
set_option Elab.async false
set_option linter.all false
set_option maxRecDepth 100000
set_option maxHeartbeats 4000000
/-! DwL10: closed types; the law's own list of variables. -/
namespace LL
open PySem PySem.Spec PyProof.Rows L2 Dw
theorem tv_len : ∀ τ : TT, τ.tv.length ≤ τ.size ∧ τ.rv.length ≤ τ.size
  | .base w => by simp [TT.tv, TT.rv]
  | .var i => by simp [TT.tv, TT.rv, TT.size]
  | .own x y => by simp [TT.tv, TT.rv]
  | .pair a b => by
    have := tv_len a
    have := tv_len b
    simp only [TT.tv, TT.rv, TT.size, List.length_append]
    omega
  | .list a => by
    have := tv_len a
    simp only [TT.tv, TT.rv, TT.size]
    omega
  | .fn a ls e b => by
    have := tv_len a
    have := tv_len b
    have : (endV e).length ≤ 1 := by cases e <;> simp [endV]
    simp only [TT.tv, TT.rv, TT.size, List.length_append]
    omega
theorem row_end {ls : List D} {e : D} (h : rowB (.tup [.tup ls, e]) = true) : e = .non ∨ ∃ i, e = .int i ∧ 0 ≤ i ∧ i < 60 := by
  simp only [rowB, Bool.and_eq_true, Bool.or_eq_true] at h
  rcases h.2 with h | h
  · cases e <;> first | exact .inl rfl | cases h
  · cases e <;> first
      | cases h
      | (simp only [idxB, Bool.and_eq_true, decide_eq_true_eq] at h; exact .inr ⟨_, rfl, h⟩)
section
variable {pg : Pg} (B : Base pg)
include B
theorem closed_at {τ : TT} {j : Nat} {M : DM} {Qx : QX} {Q : QD} (hj : 2 ≤ j) (ok : τ.ok) (hs : τ.size ≤ 100000) (hQ : Q (.bl (τ.tv.isEmpty && τ.rv.isEmpty)) M) : (callW pg j).run B.i_is_closed [τ.d] M Qx Q := by
  obtain ⟨k, rfl⟩ : ∃ k, j = k + 1 := ⟨j - 1, by omega⟩
  rw [callW_run B.h_is_closed]
  refine ⟨rfl, rfl, ?_⟩
  simp [Dw.wpT, wpE, wpA, wpI, wpO, wpSs, Dw.wpS, res, lookD, cmpR, ifD, truthD, backQ, backX, Dw.start, isiR, isTys, isTy, notR, bltR, lenOf, seqOf, okEq, okIn, plainD, plainDs, deepD, deepDs, eq_ss, eq_tt, eq_ll, eqDs, idxR, setDs, Dw.inR, slcV, newL, sameC, mthR, rcvOk, lstAt, resM, tgT, tgTs, Dw.augR, Dw.intD, updM_same, seqI, resI, binR, negR, anyM, flat_tup, flat_str, flat_int, flat_lst, flat_bl, flat_non, f_is_closed]
  refine variables_at B (by omega) ok hs ?_
  have e1 := addAll_empty τ.tv
  have e2 := addAll_empty τ.rv
  simp [Dw.wpT, wpE, wpA, wpI, wpO, wpSs, Dw.wpS, res, lookD, cmpR, ifD, truthD, backQ, backX, Dw.start, isiR, isTys, isTy, notR, bltR, lenOf, seqOf, okEq, okIn, plainD, plainDs, deepD, deepDs, eq_ss, eq_tt, eq_ll, eqDs, idxR, setDs, Dw.inR, slcV, newL, sameC, mthR, rcvOk, lstAt, resM, tgT, tgTs, Dw.augR, Dw.intD, updM_same, seqI, resI, binR, negR, anyM, flat_tup, flat_str, flat_int, flat_lst, flat_bl, flat_non, plain_ints, eqs_nil, e1, e2]
  simpa using hQ
theorem vars_at : ∀ (τ : TT) {j : Nat} {M : DM} {Qx : QX} {Q : QD}, τ.high ≤ j → τ.ok → τ.size ≤ 100000 → Q (.tup [.lst (τ.tv.map D.int), .lst (τ.rv.map D.int)]) M → (callW pg j).run B.i_varsL [τ.d] M Qx Q
  | .base w, j, M, Qx, Q, hj, ok, hs, hQ => by
    simp only [TT.high] at hj
    obtain ⟨k, rfl⟩ : ∃ k, j = k + 1 := ⟨j - 1, by omega⟩
    rw [callW_run B.h_varsL]
    refine ⟨rfl, rfl, ?_⟩
    rcases (show w = w_int ∨ w = w_truth ∨ w = w_unit from ok) with rfl | rfl | rfl
    all_goals simp [Dw.wpT, wpE, wpA, wpI, wpO, wpSs, Dw.wpS, res, lookD, cmpR, ifD, truthD, backQ, backX, Dw.start, isiR, isTys, isTy, notR, bltR, lenOf, seqOf, okEq, okIn, plainD, plainDs, deepD, deepDs, eq_ss, eq_tt, eq_ll, eqDs, idxR, setDs, Dw.inR, slcV, newL, sameC, mthR, rcvOk, lstAt, resM, tgT, tgTs, Dw.augR, Dw.intD, updM_same, seqI, resI, binR, negR, anyM, flat_tup, flat_str, flat_int, flat_lst, flat_bl, flat_non, f_varsL, TT.d, ixD, ww, forTurns]
    all_goals exact hQ
  | .var i, j, M, Qx, Q, hj, ok, hs, hQ => by
    simp only [TT.high] at hj
    obtain ⟨k, rfl⟩ : ∃ k, j = k + 1 := ⟨j - 1, by omega⟩
    rw [callW_run B.h_varsL]
    refine ⟨rfl, rfl, ?_⟩
    simp [Dw.wpT, wpE, wpA, wpI, wpO, wpSs, Dw.wpS, res, lookD, cmpR, ifD, truthD, backQ, backX, Dw.start, isiR, isTys, isTy, notR, bltR, lenOf, seqOf, okEq, okIn, plainD, plainDs, deepD, deepDs, eq_ss, eq_tt, eq_ll, eqDs, idxR, setDs, Dw.inR, slcV, newL, sameC, mthR, rcvOk, lstAt, resM, tgT, tgTs, Dw.augR, Dw.intD, updM_same, seqI, resI, binR, negR, anyM, flat_tup, flat_str, flat_int, flat_lst, flat_bl, flat_non, f_varsL, TT.d, ixD, ww]
    exact hQ
  | .own x y, j, M, Qx, Q, hj, ok, hs, hQ => by
    simp only [TT.high] at hj
    obtain ⟨k, rfl⟩ : ∃ k, j = k + 1 := ⟨j - 1, by omega⟩
    rw [callW_run B.h_varsL]
    refine ⟨rfl, rfl, ?_⟩
    simp [Dw.wpT, wpE, wpA, wpI, wpO, wpSs, Dw.wpS, res, lookD, cmpR, ifD, truthD, backQ, backX, Dw.start, isiR, isTys, isTy, notR, bltR, lenOf, seqOf, okEq, okIn, plainD, plainDs, deepD, deepDs, eq_ss, eq_tt, eq_ll, eqDs, idxR, setDs, Dw.inR, slcV, newL, sameC, mthR, rcvOk, lstAt, resM, tgT, tgTs, Dw.augR, Dw.intD, updM_same, seqI, resI, binR, negR, anyM, flat_tup, flat_str, flat_int, flat_lst, flat_bl, flat_non, f_varsL, TT.d, ixD, ww, forTurns]
    exact hQ
  | .pair a b, j, M, Qx, Q, hj, ok, hs, hQ => by
    simp only [TT.high] at hj
    simp only [TT.size] at hs
    have la := tv_len a
    have lb := tv_len b
    obtain ⟨k, rfl⟩ : ∃ k, j = k + 1 := ⟨j - 1, by omega⟩
    rw [callW_run B.h_varsL]
    refine ⟨rfl, rfl, ?_⟩
    simp [Dw.wpT, wpE, wpA, wpI, wpO, wpSs, Dw.wpS, res, lookD, cmpR, ifD, truthD, backQ, backX, Dw.start, isiR, isTys, isTy, notR, bltR, lenOf, seqOf, okEq, okIn, plainD, plainDs, deepD, deepDs, eq_ss, eq_tt, eq_ll, eqDs, idxR, setDs, Dw.inR, slcV, newL, sameC, mthR, rcvOk, lstAt, resM, tgT, tgTs, Dw.augR, Dw.intD, updM_same, seqI, resI, binR, negR, anyM, flat_tup, flat_str, flat_int, flat_lst, flat_bl, flat_non, f_varsL, TT.d, ixD, ww, forTurns, cut_one]
    refine vars_at a (by omega) ok.1 (by omega) ?_
    simp [Dw.wpT, wpE, wpA, wpI, wpO, wpSs, Dw.wpS, res, lookD, cmpR, ifD, truthD, backQ, backX, Dw.start, isiR, isTys, isTy, notR, bltR, lenOf, seqOf, okEq, okIn, plainD, plainDs, deepD, deepDs, eq_ss, eq_tt, eq_ll, eqDs, idxR, setDs, Dw.inR, slcV, newL, sameC, mthR, rcvOk, lstAt, resM, tgT, tgTs, Dw.augR, Dw.intD, updM_same, seqI, resI, binR, negR, anyM, flat_tup, flat_str, flat_int, flat_lst, flat_bl, flat_non, ixD, sizeLine]
    refine ⟨by omega, by omega, ?_⟩
    refine vars_at b (by omega) ok.2 (by omega) ?_
    simp [Dw.wpT, wpE, wpA, wpI, wpO, wpSs, Dw.wpS, res, lookD, cmpR, ifD, truthD, backQ, backX, Dw.start, isiR, isTys, isTy, notR, bltR, lenOf, seqOf, okEq, okIn, plainD, plainDs, deepD, deepDs, eq_ss, eq_tt, eq_ll, eqDs, idxR, setDs, Dw.inR, slcV, newL, sameC, mthR, rcvOk, lstAt, resM, tgT, tgTs, Dw.augR, Dw.intD, updM_same, seqI, resI, binR, negR, anyM, flat_tup, flat_str, flat_int, flat_lst, flat_bl, flat_non, ixD, sizeLine]
    refine ⟨by omega, by omega, ?_⟩
    simpa [TT.tv, TT.rv] using hQ
  | .list a, j, M, Qx, Q, hj, ok, hs, hQ => by
    simp only [TT.high] at hj
    simp only [TT.size] at hs
    have la := tv_len a
    obtain ⟨k, rfl⟩ : ∃ k, j = k + 1 := ⟨j - 1, by omega⟩
    rw [callW_run B.h_varsL]
    refine ⟨rfl, rfl, ?_⟩
    simp [Dw.wpT, wpE, wpA, wpI, wpO, wpSs, Dw.wpS, res, lookD, cmpR, ifD, truthD, backQ, backX, Dw.start, isiR, isTys, isTy, notR, bltR, lenOf, seqOf, okEq, okIn, plainD, plainDs, deepD, deepDs, eq_ss, eq_tt, eq_ll, eqDs, idxR, setDs, Dw.inR, slcV, newL, sameC, mthR, rcvOk, lstAt, resM, tgT, tgTs, Dw.augR, Dw.intD, updM_same, seqI, resI, binR, negR, anyM, flat_tup, flat_str, flat_int, flat_lst, flat_bl, flat_non, f_varsL, TT.d, ixD, ww, forTurns, cut_one]
    refine vars_at a (by omega) ok (by omega) ?_
    simp [Dw.wpT, wpE, wpA, wpI, wpO, wpSs, Dw.wpS, res, lookD, cmpR, ifD, truthD, backQ, backX, Dw.start, isiR, isTys, isTy, notR, bltR, lenOf, seqOf, okEq, okIn, plainD, plainDs, deepD, deepDs, eq_ss, eq_tt, eq_ll, eqDs, idxR, setDs, Dw.inR, slcV, newL, sameC, mthR, rcvOk, lstAt, resM, tgT, tgTs, Dw.augR, Dw.intD, updM_same, seqI, resI, binR, negR, anyM, flat_tup, flat_str, flat_int, flat_lst, flat_bl, flat_non, ixD, sizeLine]
    refine ⟨by omega, by omega, ?_⟩
    simpa [TT.tv, TT.rv] using hQ
  | .fn a ls e b, j, M, Qx, Q, hj, ok, hs, hQ => by
    simp only [TT.high] at hj
    simp only [TT.size] at hs
    have la := tv_len a
    have lb := tv_len b
    obtain ⟨k, rfl⟩ : ∃ k, j = k + 1 := ⟨j - 1, by omega⟩
    rw [callW_run B.h_varsL]
    refine ⟨rfl, rfl, ?_⟩
    simp [Dw.wpT, wpE, wpA, wpI, wpO, wpSs, Dw.wpS, res, lookD, cmpR, ifD, truthD, backQ, backX, Dw.start, isiR, isTys, isTy, notR, bltR, lenOf, seqOf, okEq, okIn, plainD, plainDs, deepD, deepDs, eq_ss, eq_tt, eq_ll, eqDs, idxR, setDs, Dw.inR, slcV, newL, sameC, mthR, rcvOk, lstAt, resM, tgT, tgTs, Dw.augR, Dw.intD, updM_same, seqI, resI, binR, negR, anyM, flat_tup, flat_str, flat_int, flat_lst, flat_bl, flat_non, f_varsL, TT.d, ixD, ww]
    refine vars_at a (by omega) ok.1 (by omega) ?_
    refine vars_at b (by omega) ok.2.2.2 (by omega) ?_
    rcases row_end ok.2.1 with rfl | ⟨i, rfl, _, _⟩
    · simp [Dw.wpT, wpE, wpA, wpI, wpO, wpSs, Dw.wpS, res, lookD, cmpR, ifD, truthD, backQ, backX, Dw.start, isiR, isTys, isTy, notR, bltR, lenOf, seqOf, okEq, okIn, plainD, plainDs, deepD, deepDs, eq_ss, eq_tt, eq_ll, eqDs, idxR, setDs, Dw.inR, slcV, newL, sameC, mthR, rcvOk, lstAt, resM, tgT, tgTs, Dw.augR, Dw.intD, updM_same, seqI, resI, binR, negR, anyM, flat_tup, flat_str, flat_int, flat_lst, flat_bl, flat_non, ixD, sizeLine]
      refine ⟨by omega, by omega, by omega, ?_⟩
      simpa [TT.tv, TT.rv, endV] using hQ
    · simp [Dw.wpT, wpE, wpA, wpI, wpO, wpSs, Dw.wpS, res, lookD, cmpR, ifD, truthD, backQ, backX, Dw.start, isiR, isTys, isTy, notR, bltR, lenOf, seqOf, okEq, okIn, plainD, plainDs, deepD, deepDs, eq_ss, eq_tt, eq_ll, eqDs, idxR, setDs, Dw.inR, slcV, newL, sameC, mthR, rcvOk, lstAt, resM, tgT, tgTs, Dw.augR, Dw.intD, updM_same, seqI, resI, binR, negR, anyM, flat_tup, flat_str, flat_int, flat_lst, flat_bl, flat_non, ixD, sizeLine]
      refine ⟨by omega, by omega, by omega, ?_⟩
      simpa [TT.tv, TT.rv, endV] using hQ
end
end LL
set_option Elab.async false
set_option linter.all false
set_option maxRecDepth 100000
set_option maxHeartbeats 4000000
/-! DwL11: sorted labels. -/
namespace LL
open PySem PySem.Spec PyProof.Rows L2 Dw
theorem lexL_trans {x y z : List Nat} (h1 : lexL x y = true) (h2 : lexL y z = true) : lexL x z = true := by
  rw [← lexL_lt, decide_eq_true_eq] at *
  exact List.lt_trans h1 h2
def PairD (d : D) : Prop := ∃ x y, d = .tup [.str x, .str y]
theorem pair_irr {d : D} (h : PairD d) : ltD d d = false := lt_irr h
theorem pair_trans {a b c : D} (ha : PairD a) (hb : PairD b) (hc : PairD c) (h1 : ltD a b = true) (h2 : ltD b c = true) : ltD a c = true := by
  obtain ⟨x, y, rfl⟩ := ha
  obtain ⟨x', y', rfl⟩ := hb
  obtain ⟨x2, y2, rfl⟩ := hc
  rw [pair_ltD] at *
  by_cases e1 : x = x'
  · subst e1
    by_cases e2 : x = x2
    · subst e2
      simp only [if_true] at *
      by_cases f1 : y = y'
      · rw [if_pos f1] at h1; cases h1
      by_cases f2 : y' = y2
      · rw [if_pos f2] at h2; cases h2
      rw [if_neg f1] at h1
      rw [if_neg f2] at h2
      have h3 := lexL_trans h1 h2
      have f3 : y ≠ y2 := fun e => by rw [e, lexL_irr] at h3; cases h3
      rw [if_neg f3]
      exact h3
    · rw [if_neg e2] at *
      exact h2
  · rw [if_neg e1] at h1
    by_cases e2 : x' = x2
    · subst e2
      rw [if_neg e1]
      exact h1
    · rw [if_neg e2] at h2
      have h3 := lexL_trans h1 h2
      have f3 : x ≠ x2 := fun e => by rw [e, lexL_irr] at h3; cases h3
      rw [if_neg f3]
      exact h3
theorem sorted_pw : ∀ ls : List D, (∀ l ∈ ls, PairD l) → (sortedB ls = true ↔ ls.Pairwise fun x y => ltD x y = true)
  | [], _ => by simp [sortedB]
  | [a], _ => by simp [sortedB]
  | a :: b :: r, h => by
    have ih := sorted_pw (b :: r) fun l hl => h l (List.mem_cons_of_mem _ hl)
    rw [show sortedB (a :: b :: r) = (ltD a b && sortedB (b :: r)) from rfl, Bool.and_eq_true, ih, List.pairwise_cons (a := a)]
    constructor
    · rintro ⟨h1, h2⟩
      refine ⟨fun c hc => ?_, h2⟩
      rcases List.mem_cons.mp hc with rfl | hc
      · exact h1
      · exact pair_trans (h a (by simp)) (h b (by simp)) (h c (by simp [hc])) h1 ((List.pairwise_cons.mp h2).1 c hc)
    · rintro ⟨h1, h2⟩
      exact ⟨h1 b (by simp), h2⟩
theorem uniq : ∀ (xs ys : List D), (∀ l ∈ xs, PairD l) → (∀ l ∈ ys, PairD l) → xs.Pairwise (fun x y => ltD x y = true) → ys.Pairwise (fun x y => ltD x y = true) → (∀ d, d ∈ xs ↔ d ∈ ys) → xs = ys
  | [], [], _, _, _, _, _ => rfl
  | [], y :: ys, _, _, _, _, h => by have := (h y).mpr (by simp); cases this
  | x :: xs, [], _, _, _, _, h => by have := (h x).mp (by simp); cases this
  | x :: xs, y :: ys, px, py, sx, sy, h => by
    obtain ⟨x1, x2⟩ := List.pairwise_cons.mp sx
    obtain ⟨y1, y2⟩ := List.pairwise_cons.mp sy
    have e : x = y := by
      rcases List.mem_cons.mp ((h x).mp (by simp)) with e | hx
      · exact e
      · rcases List.mem_cons.mp ((h y).mpr (by simp)) with e | hy
        · exact e.symm
        · have := pair_trans (px x (by simp)) (py y (by simp)) (px x (by simp)) (x1 y hy) (y1 x hx)
          rw [pair_irr (px x (by simp))] at this
          cases this
    subst e
    have nx : x ∉ xs := fun z => by
      have := x1 x z
      rw [pair_irr (px x (by simp))] at this
      cases this
    have ny : x ∉ ys := fun z => by
      have := y1 x z
      rw [pair_irr (px x (by simp))] at this
      cases this
    congr 1
    refine uniq xs ys (fun l hl => px l (by simp [hl])) (fun l hl => py l (by simp [hl])) x2 y2 fun d => ⟨fun hd => ?_, fun hd => ?_⟩
    · rcases List.mem_cons.mp ((h d).mp (by simp [hd])) with rfl | z
      · exact absurd hd nx
      · exact z
    · rcases List.mem_cons.mp ((h d).mpr (by simp [hd])) with rfl | z
      · exact absurd hd ny
      · exact z
theorem eq_pairs : ∀ (xs ys : List D), (∀ l ∈ xs, PairD l) → (∀ l ∈ ys, PairD l) → (eqDs xs ys = true ↔ xs = ys)
  | [], [], _, _ => by simp [eqDs]
  | [], y :: ys, _, _ => by simp [eqDs]
  | x :: xs, [], _, _ => by simp [eqDs]
  | x :: xs, y :: ys, px, py => by
    have ih := eq_pairs xs ys (fun l hl => px l (by simp [hl])) (fun l hl => py l (by simp [hl]))
    obtain ⟨a, b, rfl⟩ := px x (by simp)
    obtain ⟨c, d, rfl⟩ := py y (by simp)
    simp [eqDs, eqD, ih]
theorem eq_sorted {ls es : List D} (hp : ∀ l ∈ ls, PairD l) (h : SSet ls es) : eqDs ls es = sortedB ls := by
  obtain ⟨h1, h2⟩ := h
  have he : ∀ l ∈ es, PairD l := fun l hl => hp l ((h2 l).mp hl)
  rw [Bool.eq_iff_iff, eq_pairs ls es hp he, sorted_pw ls hp]
  constructor
  · rintro rfl
    exact h1
  · intro h3
    exact uniq ls es hp he h3 h1 fun d => (h2 d).symm
end LL
set_option Elab.async false
set_option linter.all false
set_option maxRecDepth 100000
set_option maxHeartbeats 4000000
/-! DwL12: sorted texts; more on types as trees. -/
namespace LL
open PySem PySem.Spec PyProof.Rows L2 Dw
def TextD (d : D) : Prop := ∃ x, d = .str x
theorem text_irr {d : D} (h : TextD d) : ltD d d = false := by
  obtain ⟨x, rfl⟩ := h
  exact lexL_irr x
theorem text_trans {a b c : D} (ha : TextD a) (hb : TextD b) (hc : TextD c) (h1 : ltD a b = true) (h2 : ltD b c = true) : ltD a c = true := by
  obtain ⟨x, rfl⟩ := ha
  obtain ⟨y, rfl⟩ := hb
  obtain ⟨z, rfl⟩ := hc
  exact lexL_trans h1 h2
theorem sorted_pwT : ∀ ls : List D, (∀ l ∈ ls, TextD l) → (sortedB ls = true ↔ ls.Pairwise fun x y => ltD x y = true)
  | [], _ => by simp [sortedB]
  | [a], _ => by simp [sortedB]
  | a :: b :: r, h => by
    have ih := sorted_pwT (b :: r) fun l hl => h l (List.mem_cons_of_mem _ hl)
    rw [show sortedB (a :: b :: r) = (ltD a b && sortedB (b :: r)) from rfl, Bool.and_eq_true, ih, List.pairwise_cons (a := a)]
    constructor
    · rintro ⟨h1, h2⟩
      refine ⟨fun c hc => ?_, h2⟩
      rcases List.mem_cons.mp hc with rfl | hc
      · exact h1
      · exact text_trans (h a (by simp)) (h b (by simp)) (h c (by simp [hc])) h1 ((List.pairwise_cons.mp h2).1 c hc)
    · rintro ⟨h1, h2⟩
      exact ⟨h1 b (by simp), h2⟩
theorem uniqT : ∀ (xs ys : List D), (∀ l ∈ xs, TextD l) → (∀ l ∈ ys, TextD l) → xs.Pairwise (fun x y => ltD x y = true) → ys.Pairwise (fun x y => ltD x y = true) → (∀ d, d ∈ xs ↔ d ∈ ys) → xs = ys
  | [], [], _, _, _, _, _ => rfl
  | [], y :: ys, _, _, _, _, h => by have := (h y).mpr (by simp); cases this
  | x :: xs, [], _, _, _, _, h => by have := (h x).mp (by simp); cases this
  | x :: xs, y :: ys, px, py, sx, sy, h => by
    obtain ⟨x1, x2⟩ := List.pairwise_cons.mp sx
    obtain ⟨y1, y2⟩ := List.pairwise_cons.mp sy
    have e : x = y := by
      rcases List.mem_cons.mp ((h x).mp (by simp)) with e | hx
      · exact e
      · rcases List.mem_cons.mp ((h y).mpr (by simp)) with e | hy
        · exact e.symm
        · have := text_trans (px x (by simp)) (py y (by simp)) (px x (by simp)) (x1 y hy) (y1 x hx)
          rw [text_irr (px x (by simp))] at this
          cases this
    subst e
    have nx : x ∉ xs := fun z => by
      have := x1 x z
      rw [text_irr (px x (by simp))] at this
      cases this
    have ny : x ∉ ys := fun z => by
      have := y1 x z
      rw [text_irr (px x (by simp))] at this
      cases this
    congr 1
    refine uniqT xs ys (fun l hl => px l (by simp [hl])) (fun l hl => py l (by simp [hl])) x2 y2 fun d => ⟨fun hd => ?_, fun hd => ?_⟩
    · rcases List.mem_cons.mp ((h d).mp (by simp [hd])) with rfl | z
      · exact absurd hd nx
      · exact z
    · rcases List.mem_cons.mp ((h d).mpr (by simp [hd])) with rfl | z
      · exact absurd hd ny
      · exact z
theorem eq_texts : ∀ (xs ys : List D), (∀ l ∈ xs, TextD l) → (∀ l ∈ ys, TextD l) → (eqDs xs ys = true ↔ xs = ys)
  | [], [], _, _ => by simp [eqDs]
  | [], y :: ys, _, _ => by simp [eqDs]
  | x :: xs, [], _, _ => by simp [eqDs]
  | x :: xs, y :: ys, px, py => by
    have ih := eq_texts xs ys (fun l hl => px l (by simp [hl])) (fun l hl => py l (by simp [hl]))
    obtain ⟨a, rfl⟩ := px x (by simp)
    obtain ⟨c, rfl⟩ := py y (by simp)
    simp [eqDs, eqD, ih]
theorem eq_sortedT {ls es : List D} (hp : ∀ l ∈ ls, TextD l) (h : SSet ls es) : eqDs ls es = sortedB ls := by
  obtain ⟨h1, h2⟩ := h
  have he : ∀ l ∈ es, TextD l := fun l hl => hp l ((h2 l).mp hl)
  rw [Bool.eq_iff_iff, eq_texts ls es hp he, sorted_pwT ls hp]
  constructor
  · rintro rfl
    exact h1
  · intro h3
    exact uniqT ls es hp he h3 h1 fun d => (h2 d).symm
theorem row_parts {ls : List D} {e : D} (h : rowB (.tup [.tup ls, e]) = true) : (∀ l ∈ ls, labelD l = true) := by
  simp only [rowB, Bool.and_eq_true, Bool.or_eq_true] at h
  exact fun l hl => List.all_eq_true.mp h.1.1.1 l hl
theorem sz_lab {l : D} (h : labelD l = true) : sz l = 3 := by
  obtain ⟨x, y, rfl, _, _⟩ := label_two h
  rfl
theorem szs_lab : ∀ ls : List D, (∀ l ∈ ls, labelD l = true) → szs ls = 3 * ls.length
  | [], _ => rfl
  | l :: ls, h => by
    simp only [szs, sz_lab (h l (by simp)), szs_lab ls fun x hx => h x (by simp [hx]), List.length_cons]
    omega
theorem sz_row {ls : List D} {e : D} (h : rowB (.tup [.tup ls, e]) = true) (few : ls.length ≤ 4) : sz (.tup [.tup ls, e]) ≤ 15 := by
  have h1 := szs_lab ls (row_parts h)
  rcases row_end h with rfl | ⟨i, rfl, _, _⟩
  all_goals
    simp only [sz, szs, h1]
    omega
theorem sz_tt : ∀ τ : TT, τ.ok → sz τ.d ≤ 20 * τ.size
  | .base w, _ => by simp [TT.d, sz, szs, TT.size]
  | .var i, _ => by simp [TT.d, sz, szs, TT.size]
  | .own x y, _ => by simp [TT.d, sz, szs, TT.size]
  | .pair a b, h => by
    have := sz_tt a h.1
    have := sz_tt b h.2
    simp only [TT.d, sz, szs, TT.size]
    omega
  | .list a, h => by
    have := sz_tt a h
    simp only [TT.d, sz, szs, TT.size]
    omega
  | .fn a ls e b, h => by
    have := sz_tt a h.1
    have := sz_tt b h.2.2.2
    have := sz_row h.2.1 h.2.2.1
    simp only [TT.d, sz, szs, TT.size] at *
    omega
theorem type_tt {τ : TT} (ok : τ.ok) (h : τ.high ≤ 24) (s : τ.size ≤ 2000) : typeB τ.d = true := by
  simp [typeB, deep_tt τ ok, h, s]
theorem deep_pairs : ∀ {ls : List D}, (∀ l ∈ ls, PairD l) → deepDs ls ≤ 1
  | [], _ => by simp [deepDs]
  | l :: ls, h => by
    have ih := deep_pairs (ls := ls) fun x hx => h x (by simp [hx])
    obtain ⟨x, y, rfl⟩ := h l (by simp)
    simp only [deepDs, deepD]
    omega
theorem labs_ok {ls : List D} (hl : ∀ l ∈ ls, labelD l = true) (few : ls.length ≤ 4) : plainDs ls = true ∧ narrow (.tup ls) = true ∧ narrows ls = true ∧ szs ls ≤ 12 ∧ deepDs ls ≤ 1 := by
  have pr : ∀ l ∈ ls, PairD l := fun l h => by
    obtain ⟨x, y, rfl, _, _⟩ := label_two (hl l h)
    exact ⟨x, y, rfl⟩
  have h2 : narrows ls = true := narrow_all fun u hu => by
    obtain ⟨x, y, rfl⟩ := pr u hu
    rfl
  refine ⟨plain_all fun u hu => by
    obtain ⟨x, y, rfl⟩ := pr u hu
    rfl, ?_, h2, by have := szs_lab ls hl; omega, deep_pairs pr⟩
  simp [narrow, h2, few]
theorem high_pos (τ : TT) : 1 ≤ τ.high := by cases τ <;> simp only [TT.high] <;> omega
theorem tt_deep : ∀ τ : TT, τ.ok → deepD τ.d ≤ τ.high + 2 ∧ narrow τ.d = true
  | .base w, _ => ⟨by simp [TT.d, deepD, deepDs, TT.high], rfl⟩
  | .var i, _ => ⟨by simp [TT.d, deepD, deepDs, TT.high], rfl⟩
  | .own x y, _ => ⟨by simp [TT.d, deepD, deepDs, TT.high], rfl⟩
  | .pair a b, h => by
    obtain ⟨a1, a2⟩ := tt_deep a h.1
    obtain ⟨b1, b2⟩ := tt_deep b h.2
    exact ⟨by simp only [TT.d, deepD, deepDs, TT.high]; omega, by simp [TT.d, narrow, narrows, isTupD, a2, b2]⟩
  | .list a, h => by
    obtain ⟨a1, a2⟩ := tt_deep a h
    exact ⟨by simp only [TT.d, deepD, deepDs, TT.high]; omega, by simp [TT.d, narrow, narrows, isTupD, a2]⟩
  | .fn a ls e b, h => by
    obtain ⟨a1, a2⟩ := tt_deep a h.1
    obtain ⟨b1, b2⟩ := tt_deep b h.2.2.2
    obtain ⟨h1, h2, h3, h4, h5⟩ := labs_ok (row_parts h.2.1) h.2.2.1
    have he : narrow e = true ∧ deepD e = 0 ∧ isTupD e = false := by
      rcases row_end h.2.1 with rfl | ⟨i, rfl, _, _⟩ <;> exact ⟨rfl, rfl, rfl⟩
    have hi := high_pos a
    refine ⟨by simp only [TT.d, deepD, deepDs, TT.high, he.2.1, Nat.max_zero, Nat.zero_max]; omega, ?_⟩
    have hr : narrow (.tup [.tup ls, e]) = true := by
      simp only [narrow, narrows, List.all_cons, isTupD, he.2.2, he.1, Bool.and_true]
      simpa [narrow] using h2
    rw [TT.d, narrow]
    simp [narrows, a2, b2, hr, isTupD]
    simpa [narrow] using hr
theorem good_row {en : Int} (he : en ≤ 60) {r : D} (h : GoodRow en r) : ∃ ls e, r = .tup [.tup ls, e] ∧ rowB r = true ∧ ls.length ≤ 4 ∧ ∀ i ∈ endV e, 0 ≤ i ∧ i < en := by
  obtain ⟨ls, e, rfl, h1, h2, h3, h4⟩ := h
  have pr : ∀ l ∈ ls, PairD l := fun l h => by
    obtain ⟨x, y, rfl, _, _⟩ := label_two (h1 l h)
    exact ⟨x, y, rfl⟩
  have hs := (sorted_pw ls pr).mpr h2
  have ha : ls.all labelD = true := List.all_eq_true.mpr h1
  have hl : ls.length ≤ 2000 := by omega
  refine ⟨ls, e, rfl, ?_, by omega, ?_⟩
  · rcases h4 with rfl | ⟨i, rfl, i0, i1⟩
    · simp [rowB, ha, hl, hs, LL.isNon]
    · have : i < 60 := by omega
      simp [rowB, ha, hl, hs, idxB, i0, this]
  · rcases h4 with rfl | ⟨i, rfl, i0, i1⟩
    · simp [endV]
    · simp [endV, i0, i1]
def TT.within (ty en : Int) (τ : TT) : Prop := (∀ i ∈ τ.tv, 0 ≤ i ∧ i < ty) ∧ ∀ i ∈ τ.rv, 0 ≤ i ∧ i < en
theorem within_two {ty : Int} {x y : List Int} (h1 : ∀ i ∈ x, 0 ≤ i ∧ i < ty) (h2 : ∀ i ∈ y, 0 ≤ i ∧ i < ty) : ∀ i ∈ x ++ y, 0 ≤ i ∧ i < ty := fun i hi => (List.mem_append.mp hi).elim (h1 i) (h2 i)
theorem ty_tt {ty en : Int} (ht : ty ≤ 60) (he : en ≤ 60) {n : Nat} {t : D} (h : TY ty en n t) : ∃ τ : TT, t = τ.d ∧ τ.ok ∧ τ.high ≤ n + 1 ∧ τ.size + 1 ≤ 2 ^ (n + 1) ∧ τ.within ty en := by
  induction h with
  | @base n w hw => exact ⟨.base w, rfl, hw, by simp only [TT.high]; omega, by
      have := Nat.one_le_two_pow (n := n)
      simp only [TT.size, Nat.pow_succ]; omega, by simp [TT.within, TT.tv, TT.rv]⟩
  | @var n i h0 h1 => exact ⟨.var i, rfl, ⟨h0, by omega⟩, by simp only [TT.high]; omega, by
      have := Nat.one_le_two_pow (n := n)
      simp only [TT.size, Nat.pow_succ]; omega, by simp [TT.within, TT.tv, TT.rv, h0, h1]⟩
  | @own n x y h0 h1 => exact ⟨.own x y, rfl, ⟨h0, h1⟩, by simp only [TT.high]; omega, by
      have := Nat.one_le_two_pow (n := n)
      simp only [TT.size, Nat.pow_succ]; omega, by simp [TT.within, TT.tv, TT.rv]⟩
  | @pair n a b _ _ ha hb =>
    obtain ⟨α, rfl, oa, ha, sa, wa⟩ := ha
    obtain ⟨β, rfl, ob, hb, sb, wb⟩ := hb
    exact ⟨.pair α β, rfl, ⟨oa, ob⟩, by simp only [TT.high]; omega, by rw [Nat.pow_succ]; simp only [TT.size]; omega, within_two wa.1 wb.1, within_two wa.2 wb.2⟩
  | @list n a _ ha =>
    obtain ⟨α, rfl, oa, ha, sa, wa⟩ := ha
    exact ⟨.list α, rfl, oa, by simp only [TT.high]; omega, by
      have := Nat.one_le_two_pow (n := n + 1)
      rw [Nat.pow_succ]; simp only [TT.size]; omega, wa⟩
  | @fn n a r b _ hr _ ha hb =>
    obtain ⟨α, rfl, oa, ha, sa, wa⟩ := ha
    obtain ⟨β, rfl, ob, hb, sb, wb⟩ := hb
    obtain ⟨ls, e, rfl, hr, few, we⟩ := good_row he hr
    exact ⟨.fn α ls e β, rfl, ⟨oa, hr, few, ob⟩, by simp only [TT.high]; omega, by rw [Nat.pow_succ]; simp only [TT.size]; omega, within_two wa.1 wb.1, within_two wa.2 (within_two we wb.2)⟩
theorem tt_inj : ∀ τ σ : TT, τ.d = σ.d → τ = σ
  | .base w, σ, h => by
    cases σ <;> simp [TT.d] at h
    rw [h]
  | .var i, σ, h => by
    cases σ with
    | var j => simp [TT.d] at h; rw [h]
    | list a => simp [TT.d] at h; exact absurd h.1 (by decide)
    | _ => simp [TT.d] at h
  | .own x y, σ, h => by
    cases σ with
    | own x' y' => simp [TT.d] at h; rw [h.1, h.2]
    | pair a b => simp [TT.d] at h; exact absurd h.1 (by decide)
    | _ => simp [TT.d] at h
  | .pair a b, σ, h => by
    cases σ with
    | own x' y' => simp [TT.d] at h; exact absurd h.1 (by decide)
    | pair a' b' => simp [TT.d] at h; rw [tt_inj a a' h.1, tt_inj b b' h.2]
    | _ => simp [TT.d] at h
  | .list a, σ, h => by
    cases σ with
    | var j => simp [TT.d] at h; exact absurd h.1 (by decide)
    | list a' => simp [TT.d] at h; rw [tt_inj a a' h]
    | _ => simp [TT.d] at h
  | .fn a ls e b, σ, h => by
    cases σ with
    | fn a' ls' e' b' => simp [TT.d] at h; rw [tt_inj a a' h.1, tt_inj b b' h.2.2, h.2.1.1, h.2.1.2]
    | _ => simp [TT.d] at h
open Classical in
/-- the tree of a type -/
noncomputable def treeOf (t : D) : Option TT := if h : ∃ τ : TT, t = τ.d ∧ τ.ok then some (choose h) else none
theorem treeOf_d {τ : TT} (ok : τ.ok) : treeOf τ.d = some τ := by
  have h : ∃ σ : TT, τ.d = σ.d ∧ σ.ok := ⟨τ, rfl, ok⟩
  unfold treeOf
  rw [dif_pos h]
  congr 1
  exact (tt_inj _ _ (Classical.choose_spec h).1).symm
end LL
set_option Elab.async false
set_option linter.all false
set_option maxRecDepth 100000
/-! DwLA0: printed by mklib2.py: more defs that the laws share. -/
namespace LL
open PySem PySem.Spec PyProof.Rows L2 Dw
def f_is_scheme (i_is_type : Nat) (i_is_index : Nat) (i_variables : Nat) : Fn := { name := "is_scheme", N := ["value", "types", "rows"], ps := 1, gc := false, hd := false, body := [(.iff (.or (.not (.isi (.var 0) [.tuple])) (.or (.cmp .ne (.blt .len [(.var 0)]) (.lit (.int 3))) (.not (.call i_is_type [(.idx (.var 0) (.lit (.int 2)))])))) [(.ret (.lit (.bl false)))] []), (.iff (.or (.not (.call i_is_index [(.idx (.var 0) (.lit (.int 0))), (.bin .add (.glo "MOST_VARIABLES" c_MOST_VARIABLES) (.lit (.int 1)))])) (.not (.call i_is_index [(.idx (.var 0) (.lit (.int 1))), (.bin .add (.glo "MOST_VARIABLES" c_MOST_VARIABLES) (.lit (.int 1)))]))) [(.ret (.lit (.bl false)))] []), (.setT (.tup [(.var 1), (.var 2)]) (.call i_variables [(.idx (.var 0) (.lit (.int 2)))])), (.ret (.and (.cmp .eq (.var 1) (.trg true (.idx (.var 0) (.lit (.int 0))))) (.cmp .eq (.var 2) (.trg true (.idx (.var 0) (.lit (.int 1)))))))] }
def f_joined_rowL : Fn := { name := "_law_joined_row", N := ["row", "rows", "end", "other"], ps := 2, gc := false, hd := false, body := [(.for_ (.tup [(.var 2), (.var 3)]) (.seq (.var 1)) [(.iff (.and (.cmp .eq (.idx (.var 0) (.lit (.int 1))) (.var 2)) (.cmp .isnot (.idx (.var 0) (.lit (.int 1))) (.lit .non))) [(.ret (.tup [(.blt .tuple [(.sst (.bin .add (.idx (.var 0) (.lit (.int 0))) (.idx (.var 3) (.lit (.int 0)))))]), (.idx (.var 3) (.lit (.int 1)))]))] [])]), (.ret (.var 0))] }
def f_put_inL (i_put_inL : Nat) (i_joined_rowL : Nat) : Fn := { name := "_law_put_in", N := ["one", "types", "rows", "part", "number", "other"], ps := 3, gc := false, hd := false, body := [(.iff (.cmp .eq (.idx (.var 0) (.lit (.int 0))) (.lit (.str w_var))) [(.ret (.idx (.bin .add (.lc false (.var 5) [4, 5] (.tup [(.var 4), (.var 5)]) (.seq (.var 1)) [(.cmp .eq (.var 4) (.idx (.var 0) (.lit (.int 1))))]) (.lst false [(.var 0)])) (.lit (.int 0))))] []), (.iff (.cmp .eq (.idx (.var 0) (.lit (.int 0))) (.lit (.str w_fun))) [(.ret (.tup [(.lit (.str w_fun)), (.call i_put_inL [(.idx (.var 0) (.lit (.int 1))), (.var 1), (.var 2)]), (.call i_joined_rowL [(.idx (.var 0) (.lit (.int 2))), (.var 2)]), (.call i_put_inL [(.idx (.var 0) (.lit (.int 3))), (.var 1), (.var 2)])]))] []), (.ret (.ife (.cmp .isin (.idx (.var 0) (.lit (.int 0))) (.tup [(.lit (.str w_pair)), (.lit (.str w_list))])) (.bin .add (.tup [(.idx (.var 0) (.lit (.int 0)))]) (.blt .tuple [(.lc false (.call i_put_inL [(.var 3), (.var 1), (.var 2)]) [3] (.var 3) (.seq (.slc (.var 0) (.some (.lit (.int 1))) .none)) [])])) (.var 0)))] }
def f_onceL : Fn := { name := "_law_once", N := ["some", "at", "one"], ps := 1, gc := false, hd := false, body := [(.ret (.lc false (.var 2) [1, 2] (.tup [(.var 1), (.var 2)]) (.enum (.var 0)) [(.cmp .notin (.var 2) (.slc (.var 0) .none (.some (.var 1))))]))] }
def f_plainL (i_varsL : Nat) (i_onceL : Nat) (i_put_inL : Nat) : Fn := { name := "_law_plain", N := ["one", "named", "near", "far", "types", "ends", "new", "old"], ps := 1, gc := false, hd := false, body := [(.setT (.tup [(.var 2), (.var 3)]) (.call i_varsL [(.var 0)])), (.par [4, 5] [(.call i_onceL [(.var 2)]), (.call i_onceL [(.var 3)])]), (.set 1 (.lc false (.tup [(.var 7), (.tup [(.lit (.str w_var)), (.var 6)])]) [6, 7] (.tup [(.var 6), (.var 7)]) (.enum (.var 4)) [])), (.ret (.tup [(.blt .len [(.var 4)]), (.blt .len [(.var 5)]), (.call i_put_inL [(.var 0), (.var 1), (.lc false (.tup [(.var 7), (.tup [(.tup []), (.var 6)])]) [6, 7] (.tup [(.var 6), (.var 7)]) (.enum (.var 5)) [])])]))] }
structure Base2 (pg : Pg) extends Base pg where
  i_is_scheme : Nat
  i_joined_rowL : Nat
  i_put_inL : Nat
  i_onceL : Nat
  i_plainL : Nat
  h_is_scheme : pg[i_is_scheme]? = some (f_is_scheme i_is_type i_is_index i_variables)
  h_joined_rowL : pg[i_joined_rowL]? = some f_joined_rowL
  h_put_inL : pg[i_put_inL]? = some (f_put_inL i_put_inL i_joined_rowL)
  h_onceL : pg[i_onceL]? = some f_onceL
  h_plainL : pg[i_plainL]? = some (f_plainL i_varsL i_onceL i_put_inL)
end LL
set_option Elab.async false
set_option linter.all false
set_option maxRecDepth 100000
set_option maxHeartbeats 4000000
/-! DwL13: types put in, plain numbering, schemes: the plain part. -/
namespace LL
open PySem PySem.Spec PyProof.Rows L2 Dw
def endR (g : Int → Int) : D → D
  | .int i => .int (g i)
  | d => d
def TT.ren (f g : Int → Int) : TT → TT
  | .var i => .var (f i)
  | .pair a b => .pair (a.ren f g) (b.ren f g)
  | .list a => .list (a.ren f g)
  | .fn a ls e b => .fn (a.ren f g) ls (endR g e) (b.ren f g)
  | τ => τ
theorem ren_high (f g : Int → Int) : ∀ τ : TT, (τ.ren f g).high = τ.high ∧ (τ.ren f g).size = τ.size
  | .base _ => ⟨rfl, rfl⟩
  | .var _ => ⟨rfl, rfl⟩
  | .own _ _ => ⟨rfl, rfl⟩
  | .pair a b => by simp only [TT.ren, TT.high, TT.size, ren_high f g a, ren_high f g b]; exact ⟨trivial, trivial⟩
  | .list a => by simp only [TT.ren, TT.high, TT.size, ren_high f g a]; exact ⟨trivial, trivial⟩
  | .fn a _ _ b => by simp only [TT.ren, TT.high, TT.size, ren_high f g a, ren_high f g b]; exact ⟨trivial, trivial⟩
theorem ren_tv (f g : Int → Int) : ∀ τ : TT, (τ.ren f g).tv = τ.tv.map f
  | .base _ => rfl
  | .var _ => rfl
  | .own _ _ => rfl
  | .pair a b => by simp only [TT.ren, TT.tv, ren_tv f g a, ren_tv f g b, List.map_append]
  | .list a => by simp only [TT.ren, TT.tv, ren_tv f g a]
  | .fn a _ _ b => by simp only [TT.ren, TT.tv, ren_tv f g a, ren_tv f g b, List.map_append]
theorem endV_ren (g : Int → Int) (e : D) : endV (endR g e) = (endV e).map g := by cases e <;> rfl
theorem ren_rv (f g : Int → Int) : ∀ τ : TT, (τ.ren f g).rv = τ.rv.map g
  | .base _ => rfl
  | .var _ => rfl
  | .own _ _ => rfl
  | .pair a b => by simp only [TT.ren, TT.rv, ren_rv f g a, ren_rv f g b, List.map_append]
  | .list a => by simp only [TT.ren, TT.rv, ren_rv f g a]
  | .fn a _ _ b => by simp only [TT.ren, TT.rv, ren_rv f g a, ren_rv f g b, List.map_append, endV_ren]
theorem row_ren {g : Int → Int} {ls : List D} {e : D} (h : rowB (.tup [.tup ls, e]) = true) (hg : ∀ i ∈ endV e, 0 ≤ g i ∧ g i < 60) : rowB (.tup [.tup ls, endR g e]) = true := by
  have he := row_end h
  simp only [rowB, Bool.and_eq_true] at h ⊢
  refine ⟨h.1, ?_⟩
  rcases he with rfl | ⟨i, rfl, _, _⟩
  · rfl
  · obtain ⟨a, b⟩ := hg i (by simp [endV])
    simp [endR, idxB, a, b, isNon]
theorem ren_ok {f g : Int → Int} : ∀ τ : TT, τ.ok → (∀ i ∈ τ.tv, 0 ≤ f i ∧ f i < 60) → (∀ i ∈ τ.rv, 0 ≤ g i ∧ g i < 60) → (τ.ren f g).ok
  | .base _, h, _, _ => h
  | .var i, _, h, _ => h i (by simp [TT.tv])
  | .own _ _, h, _, _ => h
  | .pair a b, h, hf, hg => ⟨ren_ok a h.1 (fun i hi => hf i (by simp [TT.tv, hi])) (fun i hi => hg i (by simp [TT.rv, hi])), ren_ok b h.2 (fun i hi => hf i (by simp [TT.tv, hi])) (fun i hi => hg i (by simp [TT.rv, hi]))⟩
  | .list a, h, hf, hg => ren_ok a h hf hg
  | .fn a ls e b, h, hf, hg => ⟨ren_ok a h.1 (fun i hi => hf i (by simp [TT.tv, hi])) (fun i hi => hg i (by simp [TT.rv, hi])), row_ren h.2.1 fun i hi => hg i (by simp [TT.rv, hi]), h.2.2.1, ren_ok b h.2.2.2 (fun i hi => hf i (by simp [TT.tv, hi])) (fun i hi => hg i (by simp [TT.rv, hi]))⟩

/-! ### numbering by first place -/
theorem add1_nodup {acc : List Int} {i : Int} (h : acc.Nodup) : (add1 acc i).Nodup := by
  unfold add1
  split
  · exact h
  · rename_i hi
    rw [List.nodup_append]
    refine ⟨h, by simp, fun a ha b hb => ?_⟩
    rw [List.mem_singleton.mp hb]
    rintro rfl
    exact hi ha
theorem addAll_nodup : ∀ (l acc : List Int), acc.Nodup → (addAll acc l).Nodup
  | [], _, h => h
  | i :: l, acc, h => addAll_nodup l (add1 acc i) (add1_nodup h)
theorem mem_add1 {acc : List Int} {i x : Int} : x ∈ add1 acc i ↔ x ∈ acc ∨ x = i := by
  unfold add1
  split
  · rename_i h
    exact ⟨.inl, fun z => z.elim id fun e => e ▸ h⟩
  · simp
theorem mem_addAll : ∀ (l acc : List Int) {x : Int}, x ∈ addAll acc l ↔ x ∈ acc ∨ x ∈ l
  | [], _, _ => by simp [addAll]
  | i :: l, acc, x => by
    show x ∈ addAll (add1 acc i) l ↔ _
    rw [mem_addAll l, mem_add1, List.mem_cons]
    constructor
    · rintro ((h | h) | h)
      · exact .inl h
      · exact .inr (.inl h)
      · exact .inr (.inr h)
    · rintro (h | h | h)
      · exact .inl (.inl h)
      · exact .inl (.inr h)
      · exact .inr h
theorem addAll_map {f : Int → Int} {A : List Int} (inj : ∀ a ∈ A, ∀ b ∈ A, f a = f b → a = b) : ∀ (l acc : List Int), (∀ i ∈ l, i ∈ A) → (∀ i ∈ acc, i ∈ A) → addAll (acc.map f) (l.map f) = (addAll acc l).map f
  | [], _, _, _ => rfl
  | i :: l, acc, hl, ha => by
    show addAll (add1 (acc.map f) (f i)) (l.map f) = (addAll (add1 acc i) l).map f
    have hi := hl i (by simp)
    have e : add1 (acc.map f) (f i) = (add1 acc i).map f := by
      unfold add1
      have : f i ∈ acc.map f ↔ i ∈ acc := by
        rw [List.mem_map]
        constructor
        · rintro ⟨a, h1, h2⟩
          rw [← inj a (ha a h1) i hi h2]
          exact h1
        · exact fun h => ⟨i, h, rfl⟩
      by_cases h : i ∈ acc
      · rw [if_pos h, if_pos (this.mpr h)]
      · rw [if_neg h, if_neg (fun z => h (this.mp z)), List.map_append]
        rfl
    rw [e]
    refine addAll_map inj l _ (fun x hx => hl x (by simp [hx])) fun x hx => ?_
    rcases mem_add1.mp hx with h | rfl
    · exact ha x h
    · exact hi
/-- where a number stands -/
def atI (A : List Int) (i : Int) : Int := ((A.idxOf i : Nat) : Int)
theorem atI_inj (A : List Int) : ∀ a ∈ A, ∀ b ∈ A, atI A a = atI A b → a = b := fun a ha b hb h => by
  have h' : A.idxOf a = A.idxOf b := by unfold atI at h; omega
  have e1 := List.getElem_idxOf (List.idxOf_lt_length_iff.mpr ha)
  have e2 := List.getElem_idxOf (List.idxOf_lt_length_iff.mpr hb)
  rw [← e1, ← e2]
  congr 1
theorem atI_lt {A : List Int} {i : Int} (h : i ∈ A) : 0 ≤ atI A i ∧ atI A i < A.length := by
  have := List.idxOf_lt_length_iff.mpr h
  unfold atI
  omega
theorem map_at {A : List Int} (h : A.Nodup) : (A.map (atI A)).map D.int = rangeD 0 A.length := by
  unfold rangeD
  rw [List.map_map]
  apply List.ext_getElem
  · simp
  · intro n h1 h2
    simp only [List.getElem_map, Function.comp, List.getElem_range]
    congr 1
    unfold atI
    rw [h.idxOf_getElem]
    omega
theorem plain_vars (l : List Int) : ((addAll [] (l.map (atI (addAll [] l)))).map D.int) = rangeD 0 (addAll [] l).length := by
  have h := addAll_map (atI_inj (addAll [] l)) l [] (fun i hi => (mem_addAll l []).mpr (.inr hi)) (by simp)
  rw [List.map_nil] at h
  rw [h, map_at (addAll_nodup l [] List.nodup_nil)]
theorem addAll_len {l : List Int} {n : Nat} (h : ∀ i ∈ l, 0 ≤ i ∧ i < (n : Int)) : (addAll [] l).length ≤ n := by
  have h1 := nodup_len (addAll [] l) ((List.range n).map fun (i : Nat) => (i : Int)) (addAll_nodup l [] List.nodup_nil) fun x hx => by
    rcases (mem_addAll l []).mp hx with h' | h'
    · cases h'
    · obtain ⟨a, b⟩ := h x h'
      exact List.mem_map.mpr ⟨x.toNat, List.mem_range.mpr (by omega), by omega⟩
  simpa using h1
end LL
set_option Elab.async false
set_option linter.all false
set_option maxRecDepth 100000
set_option maxHeartbeats 4000000
/-! DwL14: types put in, plain numbering, schemes: what the defs do. -/
namespace LL
open PySem PySem.Spec PyProof.Rows L2 Dw
theorem eq_ii (a b : Int) : eqD (.int a) (.int b) = (a == b) := rfl
theorem eq_ni (b : Int) : eqD .non (.int b) = false := rfl
def namN : Nat → List Int → List D
  | _, [] => []
  | n, a :: r => .tup [.int a, .tup [.str w_var, .int n]] :: namN (n + 1) r
def endN : Nat → List Int → List D
  | _, [] => []
  | n, a :: r => .tup [.int a, .tup [.tup [], .int n]] :: endN (n + 1) r
def picks (i : Int) : Nat → List Int → List D
  | _, [] => []
  | n, a :: r => if a = i then .tup [.str w_var, .int n] :: picks i (n + 1) r else picks i (n + 1) r
theorem picks_head {i : Int} : ∀ (A : List Int) (n : Nat), i ∈ A → ∃ r, picks i n A = .tup [.str w_var, .int ((n : Nat) + atI A i)] :: r
  | a :: A, n, h => by
    by_cases e : a = i
    · subst e
      exact ⟨picks a (n + 1) A, by simp [picks, atI]⟩
    · have h' : i ∈ A := (List.mem_cons.mp h).resolve_left fun z => e z.symm
      obtain ⟨r, hr⟩ := picks_head A (n + 1) h'
      refine ⟨r, ?_⟩
      rw [picks, if_neg e, hr]
      have : atI (a :: A) i = atI A i + 1 := by
        unfold atI
        have : (a == i) = false := by simpa using e
        rw [List.idxOf_cons, this, cond_false]
        omega
      rw [this]
      congr 5
      omega
theorem picks_len {i : Int} : ∀ (A : List Int) (n : Nat), (picks i n A).length ≤ A.length
  | [], _ => Nat.le_refl _
  | a :: A, n => by
    have := picks_len (i := i) A (n + 1)
    rw [picks]
    split <;> simp only [List.length_cons] <;> omega
/-- a comprehension with a test -/
theorem lc_fm {tg : D → DS → (DS → Prop) → Prop} {test : DS → DM → QX → (Bool → DM → Prop) → Prop} {elt : DTE} {G : DM → Prop} {δ : DS} {Qx : QX} {Q : List D → DM → Prop} {p : D → Bool} {f : D → D} {M : DM} (hG : G M) :
    ∀ (ds acc : List D), (∀ e ∈ ds, ∀ (R : QD) (N : DM → Prop), (match p e with
      | true => R (f e) M
      | false => N M) → tg e δ fun δ' => test δ' M Qx fun b M' => match b with
      | true => elt δ' M' Qx R
      | false => N M') → Q (acc ++ (ds.filter p).map f) M → lcTurns tg test elt G δ Qx Q ds acc M
  | [], acc, _, hQ => ⟨hG, by simpa using hQ⟩
  | d :: ds, acc, h, hQ => by
    refine ⟨hG, h d (by simp) (fun y M'' => lcTurns tg test elt G δ Qx Q ds (acc ++ [y]) M'') (fun M' => lcTurns tg test elt G δ Qx Q ds acc M') ?_⟩
    have h' := fun e he => h e (List.mem_cons_of_mem _ he)
    cases hp : p d with
    | true => exact lc_fm hG ds _ h' (by simpa [hp] using hQ)
    | false => exact lc_fm hG ds _ h' (by simpa [hp] using hQ)
/-- one turn of a for, the rest opaque -/
theorem for_cons {tg : D → DS → (DS → Prop) → Prop} {body : DTS} {G : DM → Prop} {E : DEnds} {e : D} {ds : List D} {δ : DS} {M : DM} (hG : G M) (h : ∀ N : DS → DM → Prop, (∀ δ' M', forTurns tg body G E ds δ' M' → N δ' M') → tg e δ fun δ' => body { E with nx := N, ct := N, bk := E.nx } δ' M) : forTurns tg body G E (e :: ds) δ M :=
  ⟨hG, h _ fun _ _ z => z⟩
def numB (i : Int) : D → Bool
  | .tup [.int a, _] => a == i
  | _ => false
def sndD : D → D
  | .tup [_, d] => d
  | d => d
theorem nam_mem : ∀ (A : List Int) (n : Nat) (e : D), e ∈ namN n A → ∃ a k, e = .tup [.int a, .tup [.str w_var, .int k]]
  | a :: A, n, e, h => by
    rcases List.mem_cons.mp h with rfl | h
    · exact ⟨_, _, rfl⟩
    · exact nam_mem A (n + 1) e h
theorem picks_eq (i : Int) : ∀ (A : List Int) (n : Nat), ((namN n A).filter (numB i)).map sndD = picks i n A
  | [], _ => rfl
  | a :: A, n => by
    have ih := picks_eq i A (n + 1)
    by_cases e : a = i
    · subst e
      simp [namN, picks, numB, sndD, ih]
    · simp [namN, picks, numB, e, ih]
def jb : List S := match f_joined_rowL with
    | { body := [.for_ _ _ b, _], .. } => b
    | _ => []
theorem set_same {ls es : List D} (hp : ∀ l ∈ ls, PairD l) (hs : ls.Pairwise fun x y => ltD x y = true) (h : SSet ls es) : es = ls :=
  uniq es ls (fun l hl => hp l ((h.2 l).mp hl)) hp h.1 hs h.2
theorem row_pairs {ls : List D} {e : D} (h : rowB (.tup [.tup ls, e]) = true) : (∀ l ∈ ls, PairD l) ∧ ls.Pairwise fun x y => ltD x y = true := by
  have hp : ∀ l ∈ ls, PairD l := fun l hl => by
    obtain ⟨x, y, rfl, _, _⟩ := label_two (row_parts h l hl)
    exact ⟨x, y, rfl⟩
  refine ⟨hp, (sorted_pw ls hp).mp ?_⟩
  simp only [rowB, Bool.and_eq_true] at h
  exact h.1.2
theorem jrow {C : Calls} {E : DEnds} {ls : List D} {i : Int} {R : Option D} (hp : ∀ l ∈ ls, PairD l) (hs : ls.Pairwise fun x y => ltD x y = true) (few : ls.length ≤ 4) {M : DM} : ∀ (A : List Int) (n : Nat) (e2 e3 : Option D), i ∈ A → E.rt (.tup [.tup ls, .int ((n : Nat) + atI A i)]) M →
    forTurns (tgT (.tup [.var 2, .var 3])) (wpSs C jb) anyM E (endN n A) [some (.tup [.tup ls, .int i]), R, e2, e3] M
  | a :: A, n, e2, e3, h, hQ => by
    refine for_cons trivial fun N hN => ?_
    by_cases e : a = i
    · subst e
      simp [Dw.wpT, wpE, wpA, wpI, wpO, wpSs, Dw.wpS, res, lookD, cmpR, ifD, truthD, backQ, backX, Dw.start, isiR, isTys, isTy, notR, bltR, lenOf, seqOf, okEq, okIn, plainD, plainDs, deepD, deepDs, eq_ss, eq_tt, eq_ll, eqDs, idxR, setDs, Dw.inR, slcV, newL, sameC, mthR, rcvOk, lstAt, resM, tgT, tgTs, Dw.augR, Dw.intD, updM_same, seqI, resI, binR, negR, anyM, flat_tup, flat_str, flat_int, flat_lst, flat_bl, flat_non, jb, f_joined_rowL, ixD, sizeLine, sstP, eq_ii]
      refine ⟨by omega, ⟨by omega, .inl hp⟩, fun es h => ?_⟩
      rw [set_same hp hs h]
      try simp [Dw.wpT, wpE, wpA, wpI, wpO, wpSs, Dw.wpS, res, lookD, cmpR, ifD, truthD, backQ, backX, Dw.start, isiR, isTys, isTy, notR, bltR, lenOf, seqOf, okEq, okIn, plainD, plainDs, deepD, deepDs, eq_ss, eq_tt, eq_ll, eqDs, idxR, setDs, Dw.inR, slcV, newL, sameC, mthR, rcvOk, lstAt, resM, tgT, tgTs, Dw.augR, Dw.intD, updM_same, seqI, resI, binR, negR, anyM, flat_tup, flat_str, flat_int, flat_lst, flat_bl, flat_non]
      simpa [atI] using hQ
    · have h' : i ∈ A := (List.mem_cons.mp h).resolve_left fun z => e z.symm
      have e' : (i == a) = false := by simpa using fun z => e z.symm
      simp [Dw.wpT, wpE, wpA, wpI, wpO, wpSs, Dw.wpS, res, lookD, cmpR, ifD, truthD, backQ, backX, Dw.start, isiR, isTys, isTy, notR, bltR, lenOf, seqOf, okEq, okIn, plainD, plainDs, deepD, deepDs, eq_ss, eq_tt, eq_ll, eqDs, idxR, setDs, Dw.inR, slcV, newL, sameC, mthR, rcvOk, lstAt, resM, tgT, tgTs, Dw.augR, Dw.intD, updM_same, seqI, resI, binR, negR, anyM, flat_tup, flat_str, flat_int, flat_lst, flat_bl, flat_non, jb, f_joined_rowL, ixD, e', eq_ii]
      refine hN _ _ (jrow hp hs few A (n + 1) _ _ h' ?_)
      have : atI (a :: A) i = atI A i + 1 := by
        unfold atI
        have : (a == i) = false := by simpa using e
        rw [List.idxOf_cons, this, cond_false]
        omega
      rw [this] at hQ
      have e : (((n + 1 : Nat) : Int) + atI A i) = (n : Int) + (atI A i + 1) := by omega
      rw [e]
      exact hQ
theorem jnon {C : Calls} {E : DEnds} {ls : List D} {R : Option D} {M : DM} (hl : plainDs ls = true) (hd : deepDs ls ≤ 100) : ∀ (A : List Int) (n : Nat) (e2 e3 : Option D), (∀ e2 e3, E.nx [some (.tup [.tup ls, .non]), R, e2, e3] M) →
    forTurns (tgT (.tup [.var 2, .var 3])) (wpSs C jb) anyM E (endN n A) [some (.tup [.tup ls, .non]), R, e2, e3] M
  | [], n, e2, e3, hQ => ⟨trivial, hQ _ _⟩
  | a :: A, n, e2, e3, hQ => by
    refine for_cons trivial fun N hN => ?_
    simp [Dw.wpT, wpE, wpA, wpI, wpO, wpSs, Dw.wpS, res, lookD, cmpR, ifD, truthD, backQ, backX, Dw.start, isiR, isTys, isTy, notR, bltR, lenOf, seqOf, okEq, okIn, plainD, plainDs, deepD, deepDs, eqD, eqDs, idxR, setDs, Dw.inR, slcV, newL, sameC, mthR, rcvOk, lstAt, resM, tgT, tgTs, Dw.augR, Dw.intD, updM_same, seqI, resI, binR, negR, anyM, flat_tup, flat_str, flat_int, flat_lst, flat_bl, flat_non, jb, f_joined_rowL, ixD]
    exact hN _ _ (jnon hl hd A (n + 1) _ _ hQ)
section
variable {pg : Pg} (B : Base2 pg) {j : Nat} {M : DM} {Qx : QX} {Q : QD}
theorem joined_at {ls : List D} {e : D} {A : List Int} (hj : 1 ≤ j) (h : rowB (.tup [.tup ls, e]) = true) (few : ls.length ≤ 4) (hA : ∀ i ∈ endV e, i ∈ A) (hQ : Q (.tup [.tup ls, endR (atI A) e]) M) : (callW pg j).run B.i_joined_rowL [.tup [.tup ls, e], .lst (endN 0 A)] M Qx Q := by
  obtain ⟨hp, hs⟩ := row_pairs h
  obtain ⟨l1, l2, l3, l4, l5⟩ := labs_ok (row_parts h) few
  obtain ⟨k, rfl⟩ : ∃ k, j = k + 1 := ⟨j - 1, by omega⟩
  rw [callW_run B.h_joined_rowL]
  refine ⟨rfl, rfl, ?_⟩
  rcases row_end h with rfl | ⟨i, rfl, _, _⟩
  · refine ⟨trivial, trivial, ?_⟩
    refine jnon l1 (by omega) A 0 _ _ fun e2 e3 => ?_
    try simp [Dw.wpT, wpE, wpA, wpI, wpO, wpSs, Dw.wpS, res, lookD, cmpR, ifD, truthD, backQ, backX, Dw.start, isiR, isTys, isTy, notR, bltR, lenOf, seqOf, okEq, okIn, plainD, plainDs, deepD, deepDs, eqD, eqDs, idxR, setDs, Dw.inR, slcV, newL, sameC, mthR, rcvOk, lstAt, resM, tgT, tgTs, Dw.augR, Dw.intD, updM_same, seqI, resI, binR, negR, anyM, flat_tup, flat_str, flat_int, flat_lst, flat_bl, flat_non]
    exact hQ
  · refine ⟨trivial, trivial, ?_⟩
    refine jrow hp hs few A 0 _ _ (hA i (by simp [endV])) ?_
    simpa [endR, backQ, f_joined_rowL] using hQ
theorem put_at : ∀ (τ : TT) {A F : List Int} {j : Nat} {M : DM} {Qx : QX} {Q : QD}, τ.high + 1 ≤ j → τ.ok → (∀ i ∈ τ.tv, i ∈ A) → (∀ i ∈ τ.rv, i ∈ F) → A.length ≤ 60 → Q (τ.ren (atI A) (atI F)).d M → (callW pg j).run B.i_put_inL [τ.d, .lst (namN 0 A), .lst (endN 0 F)] M Qx Q
  | .base w, A, F, j, M, Qx, Q, hj, ok, ha, hf, la, hQ => by
    simp only [TT.high] at hj
    obtain ⟨k, rfl⟩ : ∃ k, j = k + 1 := ⟨j - 1, by omega⟩
    rw [callW_run B.h_put_inL]
    refine ⟨rfl, rfl, ?_⟩
    rcases (show w = w_int ∨ w = w_truth ∨ w = w_unit from ok) with rfl | rfl | rfl
    all_goals simp [Dw.wpT, wpE, wpA, wpI, wpO, wpSs, Dw.wpS, res, lookD, cmpR, ifD, truthD, backQ, backX, Dw.start, isiR, isTys, isTy, notR, bltR, lenOf, seqOf, okEq, okIn, plainD, plainDs, deepD, deepDs, eq_ss, eq_tt, eq_ll, eqDs, idxR, setDs, Dw.inR, slcV, newL, sameC, mthR, rcvOk, lstAt, resM, tgT, tgTs, Dw.augR, Dw.intD, updM_same, seqI, resI, binR, negR, anyM, flat_tup, flat_str, flat_int, flat_lst, flat_bl, flat_non, f_put_inL, TT.d, ixD, ww]
    all_goals exact hQ
  | .var i, A, F, j, M, Qx, Q, hj, ok, ha, hf, la, hQ => by
    simp only [TT.high] at hj
    obtain ⟨k, rfl⟩ : ∃ k, j = k + 1 := ⟨j - 1, by omega⟩
    rw [callW_run B.h_put_inL]
    refine ⟨rfl, rfl, ?_⟩
    simp [Dw.wpT, wpE, wpA, wpI, wpO, wpSs, Dw.wpS, res, lookD, cmpR, ifD, truthD, backQ, backX, Dw.start, isiR, isTys, isTy, notR, bltR, lenOf, seqOf, okEq, okIn, plainD, plainDs, deepD, deepDs, eq_ss, eq_tt, eq_ll, eqDs, idxR, setDs, Dw.inR, slcV, newL, sameC, mthR, rcvOk, lstAt, resM, tgT, tgTs, Dw.augR, Dw.intD, updM_same, seqI, resI, binR, negR, anyM, flat_tup, flat_str, flat_int, flat_lst, flat_bl, flat_non, f_put_inL, TT.d, ixD, ww, wipeD]
    refine lc_fm (p := numB i) (f := sndD) trivial _ _ (fun e he R N h => ?_) ?_
    · obtain ⟨a, k, rfl⟩ := nam_mem A 0 e he
      simp only [numB] at h
      simp [Dw.wpT, wpE, wpA, wpI, wpO, wpSs, Dw.wpS, res, lookD, cmpR, ifD, truthD, backQ, backX, Dw.start, isiR, isTys, isTy, notR, bltR, lenOf, seqOf, okEq, okIn, plainD, plainDs, deepD, deepDs, eq_ss, eq_tt, eq_ll, eqDs, idxR, setDs, Dw.inR, slcV, newL, sameC, mthR, rcvOk, lstAt, resM, tgT, tgTs, Dw.augR, Dw.intD, updM_same, seqI, resI, binR, negR, anyM, flat_tup, flat_str, flat_int, flat_lst, flat_bl, flat_non, Dw.wpC, eq_ii, ixD]
      cases e : a == i <;> simp [e] at h ⊢ <;> exact h
    · rw [picks_eq]
      obtain ⟨r, hr⟩ := picks_head A 0 (ha i (by simp [TT.tv]))
      have hl := picks_len (i := i) A 0
      rw [hr] at hl ⊢
      simp only [List.length_cons] at hl
      simp [Dw.wpT, wpE, wpA, wpI, wpO, wpSs, Dw.wpS, res, lookD, cmpR, ifD, truthD, backQ, backX, Dw.start, isiR, isTys, isTy, notR, bltR, lenOf, seqOf, okEq, okIn, plainD, plainDs, deepD, deepDs, eq_ss, eq_tt, eq_ll, eqDs, idxR, setDs, Dw.inR, slcV, newL, sameC, mthR, rcvOk, lstAt, resM, tgT, tgTs, Dw.augR, Dw.intD, updM_same, seqI, resI, binR, negR, anyM, flat_tup, flat_str, flat_int, flat_lst, flat_bl, flat_non, ixD, sizeLine]
      refine ⟨by omega, ?_⟩
      simpa [TT.ren, TT.d] using hQ
  | .own x y, A, F, j, M, Qx, Q, hj, ok, ha, hf, la, hQ => by
    simp only [TT.high] at hj
    obtain ⟨k, rfl⟩ : ∃ k, j = k + 1 := ⟨j - 1, by omega⟩
    rw [callW_run B.h_put_inL]
    refine ⟨rfl, rfl, ?_⟩
    simp [Dw.wpT, wpE, wpA, wpI, wpO, wpSs, Dw.wpS, res, lookD, cmpR, ifD, truthD, backQ, backX, Dw.start, isiR, isTys, isTy, notR, bltR, lenOf, seqOf, okEq, okIn, plainD, plainDs, deepD, deepDs, eq_ss, eq_tt, eq_ll, eqDs, idxR, setDs, Dw.inR, slcV, newL, sameC, mthR, rcvOk, lstAt, resM, tgT, tgTs, Dw.augR, Dw.intD, updM_same, seqI, resI, binR, negR, anyM, flat_tup, flat_str, flat_int, flat_lst, flat_bl, flat_non, f_put_inL, TT.d, ixD, ww]
    exact hQ
  | .pair a b, A, F, j, M, Qx, Q, hj, ok, ha, hf, la, hQ => by
    simp only [TT.high] at hj
    obtain ⟨k, rfl⟩ : ∃ k, j = k + 1 := ⟨j - 1, by omega⟩
    rw [callW_run B.h_put_inL]
    refine ⟨rfl, rfl, ?_⟩
    simp [Dw.wpT, wpE, wpA, wpI, wpO, wpSs, Dw.wpS, res, lookD, cmpR, ifD, truthD, backQ, backX, Dw.start, isiR, isTys, isTy, notR, bltR, lenOf, seqOf, okEq, okIn, plainD, plainDs, deepD, deepDs, eq_ss, eq_tt, eq_ll, eqDs, idxR, setDs, Dw.inR, slcV, newL, sameC, mthR, rcvOk, lstAt, resM, tgT, tgTs, Dw.augR, Dw.intD, updM_same, seqI, resI, binR, negR, anyM, flat_tup, flat_str, flat_int, flat_lst, flat_bl, flat_non, f_put_inL, TT.d, ixD, ww, lcTurns, Dw.wpC, wipeD, cut_one]
    refine put_at a (by omega) ok.1 (fun i hi => ha i (by simp [TT.tv, hi])) (fun i hi => hf i (by simp [TT.rv, hi])) la ?_
    refine put_at b (by omega) ok.2 (fun i hi => ha i (by simp [TT.tv, hi])) (fun i hi => hf i (by simp [TT.rv, hi])) la ?_
    simp [Dw.wpT, wpE, wpA, wpI, wpO, wpSs, Dw.wpS, res, lookD, cmpR, ifD, truthD, backQ, backX, Dw.start, isiR, isTys, isTy, notR, bltR, lenOf, seqOf, okEq, okIn, plainD, plainDs, deepD, deepDs, eq_ss, eq_tt, eq_ll, eqDs, idxR, setDs, Dw.inR, slcV, newL, sameC, mthR, rcvOk, lstAt, resM, tgT, tgTs, Dw.augR, Dw.intD, updM_same, seqI, resI, binR, negR, anyM, flat_tup, flat_str, flat_int, flat_lst, flat_bl, flat_non, sizeLine]
    exact hQ
  | .list a, A, F, j, M, Qx, Q, hj, ok, ha, hf, la, hQ => by
    simp only [TT.high] at hj
    obtain ⟨k, rfl⟩ : ∃ k, j = k + 1 := ⟨j - 1, by omega⟩
    rw [callW_run B.h_put_inL]
    refine ⟨rfl, rfl, ?_⟩
    simp [Dw.wpT, wpE, wpA, wpI, wpO, wpSs, Dw.wpS, res, lookD, cmpR, ifD, truthD, backQ, backX, Dw.start, isiR, isTys, isTy, notR, bltR, lenOf, seqOf, okEq, okIn, plainD, plainDs, deepD, deepDs, eq_ss, eq_tt, eq_ll, eqDs, idxR, setDs, Dw.inR, slcV, newL, sameC, mthR, rcvOk, lstAt, resM, tgT, tgTs, Dw.augR, Dw.intD, updM_same, seqI, resI, binR, negR, anyM, flat_tup, flat_str, flat_int, flat_lst, flat_bl, flat_non, f_put_inL, TT.d, ixD, ww, lcTurns, Dw.wpC, wipeD, cut_one]
    refine put_at a (by omega) ok (fun i hi => ha i (by simp [TT.tv, hi])) (fun i hi => hf i (by simp [TT.rv, hi])) la ?_
    simp [Dw.wpT, wpE, wpA, wpI, wpO, wpSs, Dw.wpS, res, lookD, cmpR, ifD, truthD, backQ, backX, Dw.start, isiR, isTys, isTy, notR, bltR, lenOf, seqOf, okEq, okIn, plainD, plainDs, deepD, deepDs, eq_ss, eq_tt, eq_ll, eqDs, idxR, setDs, Dw.inR, slcV, newL, sameC, mthR, rcvOk, lstAt, resM, tgT, tgTs, Dw.augR, Dw.intD, updM_same, seqI, resI, binR, negR, anyM, flat_tup, flat_str, flat_int, flat_lst, flat_bl, flat_non, sizeLine]
    exact hQ
  | .fn a ls e b, A, F, j, M, Qx, Q, hj, ok, ha, hf, la, hQ => by
    simp only [TT.high] at hj
    have := high_pos a
    obtain ⟨k, rfl⟩ : ∃ k, j = k + 1 := ⟨j - 1, by omega⟩
    rw [callW_run B.h_put_inL]
    refine ⟨rfl, rfl, ?_⟩
    simp [Dw.wpT, wpE, wpA, wpI, wpO, wpSs, Dw.wpS, res, lookD, cmpR, ifD, truthD, backQ, backX, Dw.start, isiR, isTys, isTy, notR, bltR, lenOf, seqOf, okEq, okIn, plainD, plainDs, deepD, deepDs, eq_ss, eq_tt, eq_ll, eqDs, idxR, setDs, Dw.inR, slcV, newL, sameC, mthR, rcvOk, lstAt, resM, tgT, tgTs, Dw.augR, Dw.intD, updM_same, seqI, resI, binR, negR, anyM, flat_tup, flat_str, flat_int, flat_lst, flat_bl, flat_non, f_put_inL, TT.d, ixD, ww]
    refine put_at a (by omega) ok.1 (fun i hi => ha i (by simp [TT.tv, hi])) (fun i hi => hf i (by simp [TT.rv, hi])) la ?_
    refine joined_at B (by omega) ok.2.1 ok.2.2.1 (fun i hi => hf i (by simp [TT.rv, hi])) ?_
    refine put_at b (by omega) ok.2.2.2 (fun i hi => ha i (by simp [TT.tv, hi])) (fun i hi => hf i (by simp [TT.rv, hi])) la ?_
    exact hQ
end
end LL
set_option Elab.async false
set_option linter.all false
set_option maxRecDepth 100000
set_option maxHeartbeats 4000000
/-! DwL15: plain numbering and schemes: what the defs do. -/
namespace LL
open PySem PySem.Spec PyProof.Rows L2 Dw
def firsts : List Int → List Int → List Int
  | _, [] => []
  | seen, x :: r => if x ∈ seen then firsts (seen ++ [x]) r else x :: firsts (seen ++ [x]) r
def onceP (l : List Int) : D → Bool
  | .tup [.int k, .int x] => decide (x ∉ l.take k.toNat)
  | _ => false
theorem enum_int : ∀ (v : List Int) (n : Nat) (e : D), e ∈ enumD n (v.map D.int) → ∃ (k : Nat) (x : Int), e = .tup [.int k, .int x] ∧ k < n + v.length
  | a :: v, n, e, h => by
    rcases List.mem_cons.mp h with rfl | h
    · exact ⟨n, a, rfl, by simp⟩
    · obtain ⟨k, x, e, hk⟩ := enum_int v (n + 1) e h
      exact ⟨k, x, e, by simp only [List.length_cons]; omega⟩
theorem once_firsts (l : List Int) : ∀ (v u : List Int), l = u ++ v → ((enumD u.length (v.map D.int)).filter (onceP l)).map sndD = (firsts u v).map D.int
  | [], _, _ => rfl
  | x :: v, u, h => by
    have ih := once_firsts l v (u ++ [x]) (by simp [h])
    rw [List.length_append, List.length_singleton] at ih
    have ht : l.take u.length = u := by rw [h]; exact List.take_left
    by_cases e : x ∈ u
    · simp [enumD, onceP, firsts, ht, e, ih]
    · simp [enumD, onceP, firsts, ht, e, ih, sndD]
theorem addAll_firsts : ∀ (v u acc : List Int), (∀ x, x ∈ acc ↔ x ∈ u) → addAll acc v = acc ++ firsts u v
  | [], _, acc, _ => by simp [addAll, firsts]
  | x :: v, u, acc, h => by
    show addAll (add1 acc x) v = _
    by_cases e : x ∈ u
    · rw [addAll_firsts v (u ++ [x]) (add1 acc x) fun y => ?_, firsts, if_pos e, add1, if_pos ((h x).mpr e)]
      rw [mem_add1, h, List.mem_append, List.mem_singleton]
    · rw [addAll_firsts v (u ++ [x]) (add1 acc x) fun y => ?_, firsts, if_neg e, add1, if_neg fun z => e ((h x).mp z)]
      · simp
      · rw [mem_add1, h, List.mem_append, List.mem_singleton]
def namF : D → D
  | .tup [k, x] => .tup [x, .tup [.str w_var, k]]
  | d => d
def endF : D → D
  | .tup [k, x] => .tup [x, .tup [.tup [], k]]
  | d => d
theorem enum_nam : ∀ (A : List Int) (n : Nat), (enumD n (A.map D.int)).map namF = namN n A
  | [], _ => rfl
  | a :: A, n => by
    show _ :: _ = _ :: _
    rw [enum_nam A (n + 1)]
    rfl
theorem enum_end : ∀ (A : List Int) (n : Nat), (enumD n (A.map D.int)).map endF = endN n A
  | [], _ => rfl
  | a :: A, n => by
    show _ :: _ = _ :: _
    rw [enum_end A (n + 1)]
    rfl
theorem type_tree {t : D} (hn : narrow t = true) (h : typeB t = true) : ∃ τ : TT, t = τ.d ∧ τ.ok ∧ τ.high ≤ 24 ∧ τ.size ≤ 2000 := by
  have hs : (deepO t).isSome = true := by
    unfold typeB at h
    cases e : deepO t with
    | none => rw [e] at h; cases h
    | some p => rfl
  obtain ⟨τ, rfl, ok⟩ := tree_of (sz t) t (Nat.le_refl _) hn hs
  refine ⟨τ, rfl, ok, ?_⟩
  rw [typeB, deep_tt τ ok] at h
  simpa using h
noncomputable def closedD (t : D) : Bool := typeB t && (match treeOf t with
  | some τ => τ.tv.isEmpty && τ.rv.isEmpty
  | none => false)
def rngOf : D → List D
  | .int k => rangeD 0 k.toNat
  | _ => []
noncomputable def schemeT (t n m : D) : Bool := match treeOf t with
  | some τ => eqDs ((addAll [] τ.tv).map D.int) (rngOf n) && eqDs ((addAll [] τ.rv).map D.int) (rngOf m)
  | none => false
noncomputable def schemeD : D → Bool
  | .tup [n, m, t] => typeB t && idxB 61 n && idxB 61 m && schemeT t n m
  | _ => false
theorem idx_int {n : Int} {d : D} (h : idxB n d = true) : ∃ i, d = .int i ∧ 0 ≤ i ∧ i < n := by
  unfold idxB at h
  cases d <;> first | (cases h; done) | skip
  simp at h
  exact ⟨_, rfl, h⟩
theorem eqs_refl : ∀ l : List Int, eqDs (l.map D.int) (l.map D.int) = true
  | [] => rfl
  | i :: l => by
    show ((i == i) && eqDs _ _) = true
    rw [eqs_refl l]
    simp
theorem eqs_same {x : List D} {l : List Int} (h : l.map D.int = x) : eqDs (l.map D.int) x = true := by rw [← h]; exact eqs_refl l
theorem scheme_tt {τ : TT} (ok : τ.ok) (hh : τ.high ≤ 24) (hs : τ.size ≤ 2000) (w : τ.within 60 60) : schemeD (.tup [.int (addAll [] τ.tv).length, .int (addAll [] τ.rv).length, (τ.ren (atI (addAll [] τ.tv)) (atI (addAll [] τ.rv))).d]) = true := by
  have la := addAll_len (n := 60) w.1
  have lb := addAll_len (n := 60) w.2
  have ok' : (τ.ren (atI (addAll [] τ.tv)) (atI (addAll [] τ.rv))).ok := ren_ok τ ok (fun i hi => by
    have := atI_lt ((mem_addAll τ.tv []).mpr (.inr hi))
    omega) fun i hi => by
    have := atI_lt ((mem_addAll τ.rv []).mpr (.inr hi))
    omega
  have hr := ren_high (atI (addAll [] τ.tv)) (atI (addAll [] τ.rv)) τ
  have ht := type_tt ok' (by omega) (by omega)
  simp only [schemeD, schemeT, ht, treeOf_d ok', ren_tv, ren_rv, idxB, rngOf, Int.toNat_natCast]
  rw [eqs_same (plain_vars τ.tv), eqs_same (plain_vars τ.rv)]
  simp
  omega
theorem closed_tt {τ : TT} (ok : τ.ok) (hh : τ.high ≤ 24) (hs : τ.size ≤ 2000) (w : τ.within 0 0) : closedD τ.d = true := by
  have ht := type_tt ok (by omega) (by omega)
  have e1 : τ.tv = [] := List.eq_nil_iff_forall_not_mem.mpr fun i hi => by have := w.1 i hi; omega
  have e2 : τ.rv = [] := List.eq_nil_iff_forall_not_mem.mpr fun i hi => by have := w.2 i hi; omega
  simp [closedD, ht, treeOf_d ok, e1, e2]
theorem plain_range (lo : Int) (n : Nat) : plainDs (rangeD lo n) = true := plain_all fun u hu => by
  unfold rangeD at hu
  obtain ⟨i, _, rfl⟩ := List.mem_map.mp hu
  rfl
section
variable {pg : Pg} (B : Base2 pg) {j : Nat} {M : DM} {Qx : QX} {Q : QD}
theorem once_at {l : List Int} (hj : 1 ≤ j) (hl : l.length ≤ 100000) (hQ : Q (.lst ((addAll [] l).map D.int)) M) : (callW pg j).run B.i_onceL [.lst (l.map D.int)] M Qx Q := by
  obtain ⟨k, rfl⟩ : ∃ k, j = k + 1 := ⟨j - 1, by omega⟩
  rw [callW_run B.h_onceL]
  refine ⟨rfl, rfl, ?_⟩
  refine ⟨trivial, trivial, ?_⟩
  refine lc_fm (p := onceP l) (f := sndD) trivial _ _ (fun e he R N h => ?_) ?_
  · obtain ⟨k, x, rfl, hk⟩ := enum_int l 0 e he
    simp only [onceP, Int.toNat_natCast] at h
    have hk' : k ≤ (l.map D.int).length := by rw [List.length_map]; omega
    simp [Dw.wpT, wpE, wpA, wpI, wpO, wpSs, Dw.wpS, res, lookD, cmpR, ifD, truthD, backQ, backX, Dw.start, isiR, isTys, isTy, notR, bltR, lenOf, seqOf, okEq, okIn, plainD, plainDs, deepD, deepDs, eq_ss, eq_tt, eq_ll, eqDs, idxR, setDs, Dw.inR, slcV, newL, sameC, mthR, rcvOk, lstAt, resM, tgT, tgTs, Dw.augR, Dw.intD, updM_same, seqI, resI, binR, negR, anyM, flat_tup, flat_str, flat_int, flat_lst, flat_bl, flat_non, Dw.wpC, wipeD, cut_front _ k hk', ← List.map_take, ints_mem, ints_mem2, plain_ints, plain_ints', deep_ints, f_onceL]
    by_cases e : x ∈ l.take k
    · simp [e] at h ⊢
      exact h
    · simp [e] at h ⊢
      exact h
  · have e := once_firsts l l [] rfl
    rw [List.length_nil] at e
    rw [e]
    have e2 := addAll_firsts l [] [] (by simp)
    rw [List.nil_append] at e2
    rw [← e2]
    simp [Dw.wpT, wpE, wpA, wpI, wpO, wpSs, Dw.wpS, res, lookD, cmpR, ifD, truthD, backQ, backX, Dw.start, isiR, isTys, isTy, notR, bltR, lenOf, seqOf, okEq, okIn, plainD, plainDs, deepD, deepDs, eq_ss, eq_tt, eq_ll, eqDs, idxR, setDs, Dw.inR, slcV, newL, sameC, mthR, rcvOk, lstAt, resM, tgT, tgTs, Dw.augR, Dw.intD, updM_same, seqI, resI, binR, negR, anyM, flat_tup, flat_str, flat_int, flat_lst, flat_bl, flat_non, f_onceL]
    exact hQ
theorem plain_at {τ : TT} (hj : τ.high + 2 ≤ j) (ok : τ.ok) (hs : τ.size ≤ 2000) (w : τ.within 60 60) (hQ : Q (.tup [.int (addAll [] τ.tv).length, .int (addAll [] τ.rv).length, (τ.ren (atI (addAll [] τ.tv)) (atI (addAll [] τ.rv))).d]) M) : (callW pg j).run B.i_plainL [τ.d] M Qx Q := by
  have la := addAll_len (n := 60) w.1
  have lb := addAll_len (n := 60) w.2
  have := tv_len τ
  obtain ⟨k, rfl⟩ : ∃ k, j = k + 1 := ⟨j - 1, by omega⟩
  rw [callW_run B.h_plainL]
  refine ⟨rfl, rfl, ?_⟩
  simp [Dw.wpT, wpE, wpA, wpI, wpO, wpSs, Dw.wpS, res, lookD, cmpR, ifD, truthD, backQ, backX, Dw.start, isiR, isTys, isTy, notR, bltR, lenOf, seqOf, okEq, okIn, plainD, plainDs, deepD, deepDs, eq_ss, eq_tt, eq_ll, eqDs, idxR, setDs, Dw.inR, slcV, newL, sameC, mthR, rcvOk, lstAt, resM, tgT, tgTs, Dw.augR, Dw.intD, updM_same, seqI, resI, binR, negR, anyM, flat_tup, flat_str, flat_int, flat_lst, flat_bl, flat_non, f_plainL]
  refine vars_at B.toBase τ (by omega) ok (by omega) ?_
  try simp [Dw.wpT, wpE, wpA, wpI, wpO, wpSs, Dw.wpS, res, lookD, cmpR, ifD, truthD, backQ, backX, Dw.start, isiR, isTys, isTy, notR, bltR, lenOf, seqOf, okEq, okIn, plainD, plainDs, deepD, deepDs, eq_ss, eq_tt, eq_ll, eqDs, idxR, setDs, Dw.inR, slcV, newL, sameC, mthR, rcvOk, lstAt, resM, tgT, tgTs, Dw.augR, Dw.intD, updM_same, seqI, resI, binR, negR, anyM, flat_tup, flat_str, flat_int, flat_lst, flat_bl, flat_non]
  refine once_at B (by omega) (by omega) ?_
  refine once_at B (by omega) (by omega) ?_
  simp [Dw.wpT, wpE, wpA, wpI, wpO, wpSs, Dw.wpS, res, lookD, cmpR, ifD, truthD, backQ, backX, Dw.start, isiR, isTys, isTy, notR, bltR, lenOf, seqOf, okEq, okIn, plainD, plainDs, deepD, deepDs, eq_ss, eq_tt, eq_ll, eqDs, idxR, setDs, Dw.inR, slcV, newL, sameC, mthR, rcvOk, lstAt, resM, tgT, tgTs, Dw.augR, Dw.intD, updM_same, seqI, resI, binR, negR, anyM, flat_tup, flat_str, flat_int, flat_lst, flat_bl, flat_non, enumI]
  refine lc_mem (M := M) (f := namF) ?_ _ _ (fun e he R hR => ?_) ?_
  · trivial
  · obtain ⟨k, x, rfl, hk⟩ := enum_int _ 0 e he
    simp [Dw.wpT, wpE, wpA, wpI, wpO, wpSs, Dw.wpS, res, lookD, cmpR, ifD, truthD, backQ, backX, Dw.start, isiR, isTys, isTy, notR, bltR, lenOf, seqOf, okEq, okIn, plainD, plainDs, deepD, deepDs, eq_ss, eq_tt, eq_ll, eqDs, idxR, setDs, Dw.inR, slcV, newL, sameC, mthR, rcvOk, lstAt, resM, tgT, tgTs, Dw.augR, Dw.intD, updM_same, seqI, resI, binR, negR, anyM, flat_tup, flat_str, flat_int, flat_lst, flat_bl, flat_non, wipeD]
    exact hR
  rw [List.nil_append, enum_nam]
  try simp [Dw.wpT, wpE, wpA, wpI, wpO, wpSs, Dw.wpS, res, lookD, cmpR, ifD, truthD, backQ, backX, Dw.start, isiR, isTys, isTy, notR, bltR, lenOf, seqOf, okEq, okIn, plainD, plainDs, deepD, deepDs, eq_ss, eq_tt, eq_ll, eqDs, idxR, setDs, Dw.inR, slcV, newL, sameC, mthR, rcvOk, lstAt, resM, tgT, tgTs, Dw.augR, Dw.intD, updM_same, seqI, resI, binR, negR, anyM, flat_tup, flat_str, flat_int, flat_lst, flat_bl, flat_non]
  refine lc_mem (M := M) (f := endF) ?_ _ _ (fun e he R hR => ?_) ?_
  · trivial
  · obtain ⟨k, x, rfl, hk⟩ := enum_int _ 0 e he
    simp [Dw.wpT, wpE, wpA, wpI, wpO, wpSs, Dw.wpS, res, lookD, cmpR, ifD, truthD, backQ, backX, Dw.start, isiR, isTys, isTy, notR, bltR, lenOf, seqOf, okEq, okIn, plainD, plainDs, deepD, deepDs, eq_ss, eq_tt, eq_ll, eqDs, idxR, setDs, Dw.inR, slcV, newL, sameC, mthR, rcvOk, lstAt, resM, tgT, tgTs, Dw.augR, Dw.intD, updM_same, seqI, resI, binR, negR, anyM, flat_tup, flat_str, flat_int, flat_lst, flat_bl, flat_non, wipeD]
    exact hR
  rw [List.nil_append, enum_end]
  try simp [Dw.wpT, wpE, wpA, wpI, wpO, wpSs, Dw.wpS, res, lookD, cmpR, ifD, truthD, backQ, backX, Dw.start, isiR, isTys, isTy, notR, bltR, lenOf, seqOf, okEq, okIn, plainD, plainDs, deepD, deepDs, eq_ss, eq_tt, eq_ll, eqDs, idxR, setDs, Dw.inR, slcV, newL, sameC, mthR, rcvOk, lstAt, resM, tgT, tgTs, Dw.augR, Dw.intD, updM_same, seqI, resI, binR, negR, anyM, flat_tup, flat_str, flat_int, flat_lst, flat_bl, flat_non]
  refine put_at B τ (by omega) ok (fun i hi => (mem_addAll τ.tv []).mpr (.inr hi)) (fun i hi => (mem_addAll τ.rv []).mpr (.inr hi)) la ?_
  exact hQ
theorem scheme_any {d : D} (hj : 6 ≤ j) (hp : plainD d = true) (hn : narrow d = true) (hs : sz d ≤ 1000000) (hQ : Q (.bl (schemeD d)) M) : (callW pg j).run B.i_is_scheme [d] M Qx Q := by
  obtain ⟨k, rfl⟩ : ∃ k, j = k + 1 := ⟨j - 1, by omega⟩
  rw [callW_run B.h_is_scheme]
  refine ⟨rfl, rfl, ?_⟩
  cases d with
  | tup ds =>
    match ds, hp, hn, hs, hQ with
    | [], hp, hn, hs, hQ =>
      simp [Dw.wpT, wpE, wpA, wpI, wpO, wpSs, Dw.wpS, res, lookD, cmpR, ifD, truthD, backQ, backX, Dw.start, isiR, isTys, isTy, notR, bltR, lenOf, seqOf, okEq, okIn, plainD, plainDs, deepD, deepDs, eqD, eqDs, idxR, setDs, Dw.inR, slcV, newL, sameC, mthR, rcvOk, lstAt, resM, tgT, tgTs, Dw.augR, Dw.intD, updM_same, seqI, resI, binR, negR, anyM, flat_tup, flat_str, flat_int, flat_lst, flat_bl, flat_non, f_is_scheme]
      exact hQ
    | [x], hp, hn, hs, hQ =>
      simp [Dw.wpT, wpE, wpA, wpI, wpO, wpSs, Dw.wpS, res, lookD, cmpR, ifD, truthD, backQ, backX, Dw.start, isiR, isTys, isTy, notR, bltR, lenOf, seqOf, okEq, okIn, plainD, plainDs, deepD, deepDs, eqD, eqDs, idxR, setDs, Dw.inR, slcV, newL, sameC, mthR, rcvOk, lstAt, resM, tgT, tgTs, Dw.augR, Dw.intD, updM_same, seqI, resI, binR, negR, anyM, flat_tup, flat_str, flat_int, flat_lst, flat_bl, flat_non, f_is_scheme]
      exact hQ
    | [x, y], hp, hn, hs, hQ =>
      simp [Dw.wpT, wpE, wpA, wpI, wpO, wpSs, Dw.wpS, res, lookD, cmpR, ifD, truthD, backQ, backX, Dw.start, isiR, isTys, isTy, notR, bltR, lenOf, seqOf, okEq, okIn, plainD, plainDs, deepD, deepDs, eqD, eqDs, idxR, setDs, Dw.inR, slcV, newL, sameC, mthR, rcvOk, lstAt, resM, tgT, tgTs, Dw.augR, Dw.intD, updM_same, seqI, resI, binR, negR, anyM, flat_tup, flat_str, flat_int, flat_lst, flat_bl, flat_non, f_is_scheme]
      exact hQ
    | x :: y :: z :: u :: r, hp, hn, hs, hQ =>
      simp [Dw.wpT, wpE, wpA, wpI, wpO, wpSs, Dw.wpS, res, lookD, cmpR, ifD, truthD, backQ, backX, Dw.start, isiR, isTys, isTy, notR, bltR, lenOf, seqOf, okEq, okIn, plainD, plainDs, deepD, deepDs, eqD, eqDs, idxR, setDs, Dw.inR, slcV, newL, sameC, mthR, rcvOk, lstAt, resM, tgT, tgTs, Dw.augR, Dw.intD, updM_same, seqI, resI, binR, negR, anyM, flat_tup, flat_str, flat_int, flat_lst, flat_bl, flat_non, f_is_scheme, len_e3]
      exact hQ
    | [n, m, t], hp, hn, hs, hQ =>
      simp only [plainD, plainDs, Bool.and_eq_true] at hp
      obtain ⟨pn, pm, pt, _⟩ := hp
      have nt : narrow t = true := narrow_mem (us := [n, m, t]) (by simp only [narrow, Bool.and_eq_true] at hn; exact hn.2) t (by simp)
      simp only [sz, szs] at hs
      simp [Dw.wpT, wpE, wpA, wpI, wpO, wpSs, Dw.wpS, res, lookD, cmpR, ifD, truthD, backQ, backX, Dw.start, isiR, isTys, isTy, notR, bltR, lenOf, seqOf, okEq, okIn, plainD, plainDs, deepD, deepDs, eq_ss, eq_tt, eq_ll, eqDs, idxR, setDs, Dw.inR, slcV, newL, sameC, mthR, rcvOk, lstAt, resM, tgT, tgTs, Dw.augR, Dw.intD, updM_same, seqI, resI, binR, negR, anyM, flat_tup, flat_str, flat_int, flat_lst, flat_bl, flat_non, f_is_scheme, ixD]
      refine type_any B.toBase (by omega) pt (by omega) ?_
      cases ht : typeB t with
      | false =>
        try simp [Dw.wpT, wpE, wpA, wpI, wpO, wpSs, Dw.wpS, res, lookD, cmpR, ifD, truthD, backQ, backX, Dw.start, isiR, isTys, isTy, notR, bltR, lenOf, seqOf, okEq, okIn, plainD, plainDs, deepD, deepDs, eq_ss, eq_tt, eq_ll, eqDs, idxR, setDs, Dw.inR, slcV, newL, sameC, mthR, rcvOk, lstAt, resM, tgT, tgTs, Dw.augR, Dw.intD, updM_same, seqI, resI, binR, negR, anyM, flat_tup, flat_str, flat_int, flat_lst, flat_bl, flat_non]
        simpa [schemeD, ht] using hQ
      | true =>
        simp [Dw.wpT, wpE, wpA, wpI, wpO, wpSs, Dw.wpS, res, lookD, cmpR, ifD, truthD, backQ, backX, Dw.start, isiR, isTys, isTy, notR, bltR, lenOf, seqOf, okEq, okIn, plainD, plainDs, deepD, deepDs, eq_ss, eq_tt, eq_ll, eqDs, idxR, setDs, Dw.inR, slcV, newL, sameC, mthR, rcvOk, lstAt, resM, tgT, tgTs, Dw.augR, Dw.intD, updM_same, seqI, resI, binR, negR, anyM, flat_tup, flat_str, flat_int, flat_lst, flat_bl, flat_non, c_MOST_VARIABLES]
        refine index_any B.toBase (by omega) pn ?_
        cases h1 : idxB 61 n with
        | false =>
          try simp [Dw.wpT, wpE, wpA, wpI, wpO, wpSs, Dw.wpS, res, lookD, cmpR, ifD, truthD, backQ, backX, Dw.start, isiR, isTys, isTy, notR, bltR, lenOf, seqOf, okEq, okIn, plainD, plainDs, deepD, deepDs, eq_ss, eq_tt, eq_ll, eqDs, idxR, setDs, Dw.inR, slcV, newL, sameC, mthR, rcvOk, lstAt, resM, tgT, tgTs, Dw.augR, Dw.intD, updM_same, seqI, resI, binR, negR, anyM, flat_tup, flat_str, flat_int, flat_lst, flat_bl, flat_non]
          simpa [schemeD, ht, h1] using hQ
        | true =>
          try simp [Dw.wpT, wpE, wpA, wpI, wpO, wpSs, Dw.wpS, res, lookD, cmpR, ifD, truthD, backQ, backX, Dw.start, isiR, isTys, isTy, notR, bltR, lenOf, seqOf, okEq, okIn, plainD, plainDs, deepD, deepDs, eq_ss, eq_tt, eq_ll, eqDs, idxR, setDs, Dw.inR, slcV, newL, sameC, mthR, rcvOk, lstAt, resM, tgT, tgTs, Dw.augR, Dw.intD, updM_same, seqI, resI, binR, negR, anyM, flat_tup, flat_str, flat_int, flat_lst, flat_bl, flat_non]
          refine index_any B.toBase (by omega) pm ?_
          cases h2 : idxB 61 m with
          | false =>
            try simp [Dw.wpT, wpE, wpA, wpI, wpO, wpSs, Dw.wpS, res, lookD, cmpR, ifD, truthD, backQ, backX, Dw.start, isiR, isTys, isTy, notR, bltR, lenOf, seqOf, okEq, okIn, plainD, plainDs, deepD, deepDs, eq_ss, eq_tt, eq_ll, eqDs, idxR, setDs, Dw.inR, slcV, newL, sameC, mthR, rcvOk, lstAt, resM, tgT, tgTs, Dw.augR, Dw.intD, updM_same, seqI, resI, binR, negR, anyM, flat_tup, flat_str, flat_int, flat_lst, flat_bl, flat_non]
            simpa [schemeD, ht, h1, h2] using hQ
          | true =>
            obtain ⟨τ, rfl, ok, hh, hz⟩ := type_tree nt ht
            obtain ⟨a, rfl, a0, a1⟩ := idx_int h1
            obtain ⟨b, rfl, b0, b1⟩ := idx_int h2
            try simp [Dw.wpT, wpE, wpA, wpI, wpO, wpSs, Dw.wpS, res, lookD, cmpR, ifD, truthD, backQ, backX, Dw.start, isiR, isTys, isTy, notR, bltR, lenOf, seqOf, okEq, okIn, plainD, plainDs, deepD, deepDs, eq_ss, eq_tt, eq_ll, eqDs, idxR, setDs, Dw.inR, slcV, newL, sameC, mthR, rcvOk, lstAt, resM, tgT, tgTs, Dw.augR, Dw.intD, updM_same, seqI, resI, binR, negR, anyM, flat_tup, flat_str, flat_int, flat_lst, flat_bl, flat_non]
            refine variables_at B.toBase (by omega) ok (by omega) ?_
            have za : a.toNat ≤ 60 := by omega
            have zb : b.toNat ≤ 60 := by omega
            simp [Dw.wpT, wpE, wpA, wpI, wpO, wpSs, Dw.wpS, res, lookD, cmpR, ifD, truthD, backQ, backX, Dw.start, isiR, isTys, isTy, notR, bltR, lenOf, seqOf, okEq, okIn, plainD, plainDs, deepD, deepDs, eq_ss, eq_tt, eq_ll, eqDs, idxR, setDs, Dw.inR, slcV, newL, sameC, mthR, rcvOk, lstAt, resM, tgT, tgTs, Dw.augR, Dw.intD, updM_same, seqI, resI, binR, negR, anyM, flat_tup, flat_str, flat_int, flat_lst, flat_bl, flat_non, trgR, sizeLine, plain_ints, deep_ints]
            simp [schemeD, ht, h1, h2, schemeT, treeOf_d ok, rngOf] at hQ
            cases e1 : eqDs ((addAll [] τ.tv).map D.int) (rangeD 0 a.toNat) <;> simp [e1] at hQ ⊢
            · exact ⟨by omega, plain_range _ _, hQ⟩
            · exact ⟨by omega, plain_range _ _, by omega, plain_range _ _, hQ⟩
  | _ =>
    first
    | (cases hp; done)
    | (simp [Dw.wpT, wpE, wpA, wpI, wpO, wpSs, Dw.wpS, res, lookD, cmpR, ifD, truthD, backQ, backX, Dw.start, isiR, isTys, isTy, notR, bltR, lenOf, seqOf, okEq, okIn, plainD, plainDs, deepD, deepDs, eqD, eqDs, idxR, setDs, Dw.inR, slcV, newL, sameC, mthR, rcvOk, lstAt, resM, tgT, tgTs, Dw.augR, Dw.intD, updM_same, seqI, resI, binR, negR, anyM, flat_tup, flat_str, flat_int, flat_lst, flat_bl, flat_non, f_is_scheme]; exact hQ)
end
end LL
set_option Elab.async false
set_option linter.all false
set_option maxRecDepth 100000
/-! K04: printed by gen.py: the defs of the row in the small language. -/
namespace K04
open PySem PySem.Spec PyProof.Rows L2 Dw

def w_pair : List Nat := [112, 97, 105, 114]
def w_list : List Nat := [108, 105, 115, 116]
def w_fun : List Nat := [102, 117, 110]
def w_own : List Nat := [111, 119, 110]
def w_var : List Nat := [118, 97, 114]
def w__5 : List Nat := [112, 105, 101, 99, 101, 32, 110, 101, 101, 100, 115, 32, 101, 102, 102, 101, 99, 116, 32, 111, 119, 110, 32, 108, 101, 116, 32, 114, 101, 99, 32, 105, 110, 32, 115, 104, 111, 119, 32, 102, 117, 110, 32, 105, 102, 32, 116, 104, 101, 110, 32, 101, 108, 115, 101, 32, 99, 97, 115, 101, 32, 111, 102, 32, 110, 111, 110, 101, 32, 112, 117, 116, 32, 100, 111, 32, 99, 97, 116, 99, 104, 32, 119, 105, 116, 104, 32, 115, 101, 97, 108, 32, 111, 112, 101, 110, 32, 102, 105, 114, 115, 116, 32, 115, 101, 99, 111, 110, 100, 32, 116, 114, 117, 101, 32, 102, 97, 108, 115, 101, 32, 117, 110, 105, 116, 32, 105, 110, 116, 32, 116, 114, 117, 116, 104, 32, 112, 97, 105, 114, 32, 108, 105, 115, 116, 32, 97, 100, 100, 32, 115, 117, 98, 32, 109, 117, 108, 32, 108, 101, 115, 115, 32, 115, 97, 109, 101, 32, 110, 111, 116, 32, 101, 110, 100]
def w__6 : List Nat := [32]
def w_piece : List Nat := [112, 105, 101, 99, 101]
def w_needs : List Nat := [110, 101, 101, 100, 115]
def w_effect : List Nat := [101, 102, 102, 101, 99, 116]
def w_let : List Nat := [108, 101, 116]
def w_rec : List Nat := [114, 101, 99]
def w_in : List Nat := [105, 110]
def w_show : List Nat := [115, 104, 111, 119]
def w_if : List Nat := [105, 102]
def w_then : List Nat := [116, 104, 101, 110]
def w_else : List Nat := [101, 108, 115, 101]
def w_case : List Nat := [99, 97, 115, 101]
def w_of : List Nat := [111, 102]
def w_none : List Nat := [110, 111, 110, 101]
def w_put : List Nat := [112, 117, 116]
def w_do : List Nat := [100, 111]
def w_catch : List Nat := [99, 97, 116, 99, 104]
def w_with : List Nat := [119, 105, 116, 104]
def w_seal : List Nat := [115, 101, 97, 108]
def w_open : List Nat := [111, 112, 101, 110]
def w_first : List Nat := [102, 105, 114, 115, 116]
def w_second : List Nat := [115, 101, 99, 111, 110, 100]
def w_true : List Nat := [116, 114, 117, 101]
def w_false : List Nat := [102, 97, 108, 115, 101]
def w_unit : List Nat := [117, 110, 105, 116]
def w_int : List Nat := [105, 110, 116]
def w_truth : List Nat := [116, 114, 117, 116, 104]
def w_add : List Nat := [97, 100, 100]
def w_sub : List Nat := [115, 117, 98]
def w_mul : List Nat := [109, 117, 108]
def w_less : List Nat := [108, 101, 115, 115]
def w_same : List Nat := [115, 97, 109, 101]
def w_not : List Nat := [110, 111, 116]
def w_end : List Nat := [101, 110, 100]
def w__40 : List Nat := [97, 98, 99, 100, 101, 102, 103, 104, 105, 106, 107, 108, 109, 110, 111, 112, 113, 114, 115, 116, 117, 118, 119, 120, 121, 122]
def w__41 : List Nat := [97, 98, 99, 100, 101, 102, 103, 104, 105, 106, 107, 108, 109, 110, 111, 112, 113, 114, 115, 116, 117, 118, 119, 120, 121, 122, 48, 49, 50, 51, 52, 53, 54, 55, 56, 57]
def w__42 : List Nat := []
def w_p : List Nat := [112]
def w_q : List Nat := [113]
def w_r : List Nat := [114]
def w_ask : List Nat := [97, 115, 107]
def w_tell : List Nat := [116, 101, 108, 108]
def w_box : List Nat := [98, 111, 120]
def w_main : List Nat := [109, 97, 105, 110]
def w_x1 : List Nat := [120, 49]
def w_zz : List Nat := [122, 122]
def w_0123456789 : List Nat := [48, 49, 50, 51, 52, 53, 54, 55, 56, 57]
def w_a : List Nat := [97]
def w_k : List Nat := [107]
def w_z : List Nat := [122]
def w_0 : List Nat := [48]
def w_A : List Nat := [65]
def w_zz9 : List Nat := [122, 122, 57]
def c_LETTERS : D := .str w__40
def c_DIGITS : D := .str w_0123456789
def c_MOST_SIGNS : D := .int 12
def c_WORDS : D := .tup [(.str w_piece), (.str w_needs), (.str w_effect), (.str w_own), (.str w_let), (.str w_rec), (.str w_in), (.str w_show), (.str w_fun), (.str w_if), (.str w_then), (.str w_else), (.str w_case), (.str w_of), (.str w_none), (.str w_put), (.str w_do), (.str w_catch), (.str w_with), (.str w_seal), (.str w_open), (.str w_first), (.str w_second), (.str w_true), (.str w_false), (.str w_unit), (.str w_int), (.str w_truth), (.str w_pair), (.str w_list), (.str w_add), (.str w_sub), (.str w_mul), (.str w_less), (.str w_same), (.str w_not), (.str w_end)]
def c_MOST_DEEP : D := .int 24
def c_MOST_PARTS : D := .int 2000
def c_MOST_VARIABLES : D := .int 60
def c_PLAIN : D := .tup [(.str w_int), (.str w_truth), (.str w_unit)]
def top (i : Nat) : Stmt := PySem.Challenge.pw_whoevermade_k04_whole_faces_judged.main.body.getD i (.Pass ⟨0, 0, 0, 0⟩)
/-- 0 -/
def f_is_name : Fn := { name := "is_name", N := ["value", "sign"], ps := 1, gc := false, hd := false, body := [(.iff (.or (.not (.isi (.var 0) [.str])) (.or (.not (.cmp2 .le .le (.lit (.int 1)) (.blt .len [(.var 0)]) (.glo "MOST_SIGNS" c_MOST_SIGNS))) (.cmp .isin (.var 0) (.glo "WORDS" c_WORDS)))) [(.ret (.lit (.bl false)))] []), (.ret (.and (.cmp .isin (.idx (.var 0) (.lit (.int 0))) (.glo "LETTERS" c_LETTERS)) (.blt .all [(.lc false (.or (.cmp .isin (.var 1) (.glo "LETTERS" c_LETTERS)) (.cmp .isin (.var 1) (.glo "DIGITS" c_DIGITS))) [1] (.var 1) (.seq (.var 0)) [])])))] }
def d_is_name : DefS := ⟨"is_name", defArgs (top 5), defBody (top 5), defScope (top 5), ["value"], []⟩
/-- 1 -/
def f_is_label : Fn := { name := "is_label", N := ["value"], ps := 1, gc := false, hd := false, body := [(.ret (.and (.isi (.var 0) [.tuple]) (.and (.cmp .eq (.blt .len [(.var 0)]) (.lit (.int 2))) (.and (.call 0 [(.idx (.var 0) (.lit (.int 0)))]) (.call 0 [(.idx (.var 0) (.lit (.int 1)))])))))] }
def d_is_label : DefS := ⟨"is_label", defArgs (top 6), defBody (top 6), defScope (top 6), ["value"], []⟩
/-- 2 -/
def f_are_names : Fn := { name := "are_names", N := ["value", "one", "other"], ps := 1, gc := false, hd := false, body := [(.iff (.or (.not (.isi (.var 0) [.tuple])) (.not (.blt .all [(.lc false (.call 0 [(.var 1)]) [1] (.var 1) (.seq (.var 0)) [])]))) [(.ret (.lit (.bl false)))] []), (.ret (.blt .all [(.lc false (.cmp .lt (.var 1) (.var 2)) [1, 2] (.tup [(.var 1), (.var 2)]) (.zip (.var 0) (.slc (.var 0) (.some (.lit (.int 1))) .none)) [])]))] }
def d_are_names : DefS := ⟨"are_names", defArgs (top 7), defBody (top 7), defScope (top 7), ["value"], []⟩
/-- 3 -/
def f_is_integer : Fn := { name := "is_integer", N := ["value"], ps := 1, gc := false, hd := false, body := [(.ret (.and (.isi (.var 0) [.int]) (.not (.isi (.var 0) [.bool]))))] }
def d_is_integer : DefS := ⟨"is_integer", defArgs (top 9), defBody (top 9), defScope (top 9), ["value"], []⟩
/-- 4 -/
def f_is_index : Fn := { name := "is_index", N := ["value", "many"], ps := 2, gc := false, hd := false, body := [(.ret (.and (.call 3 [(.var 0)]) (.cmp2 .le .lt (.lit (.int 0)) (.var 0) (.var 1))))] }
def d_is_index : DefS := ⟨"is_index", defArgs (top 10), defBody (top 10), defScope (top 10), ["value", "many"], []⟩
/-- 5 -/
def f_is_row : Fn := { name := "is_row", N := ["value", "one", "other"], ps := 1, gc := false, hd := false, body := [(.iff (.or (.not (.isi (.var 0) [.tuple])) (.or (.cmp .ne (.blt .len [(.var 0)]) (.lit (.int 2))) (.not (.isi (.idx (.var 0) (.lit (.int 0))) [.tuple])))) [(.ret (.lit (.bl false)))] []), (.iff (.or (.not (.blt .all [(.lc false (.call 1 [(.var 1)]) [1] (.var 1) (.seq (.idx (.var 0) (.lit (.int 0)))) [])])) (.cmp .gt (.blt .len [(.idx (.var 0) (.lit (.int 0)))]) (.glo "MOST_PARTS" c_MOST_PARTS))) [(.ret (.lit (.bl false)))] []), (.iff (.not (.blt .all [(.lc false (.cmp .lt (.var 1) (.var 2)) [1, 2] (.tup [(.var 1), (.var 2)]) (.zip (.idx (.var 0) (.lit (.int 0))) (.slc (.idx (.var 0) (.lit (.int 0))) (.some (.lit (.int 1))) .none)) [])])) [(.ret (.lit (.bl false)))] []), (.ret (.or (.cmp .is (.idx (.var 0) (.lit (.int 1))) (.lit .non)) (.call 4 [(.idx (.var 0) (.lit (.int 1))), (.glo "MOST_VARIABLES" c_MOST_VARIABLES)])))] }
def d_is_row : DefS := ⟨"is_row", defArgs (top 16), defBody (top 16), defScope (top 16), ["value"], []⟩
/-- 6 -/
def f_inner_types : Fn := { name := "inner_types", N := ["value", "word", "size"], ps := 1, gc := false, hd := false, body := [(.iff (.or (.not (.isi (.var 0) [.tuple])) (.or (.cmp .eq (.var 0) (.tup [])) (.not (.isi (.idx (.var 0) (.lit (.int 0))) [.str])))) [(.ret (.tup [(.tup []), (.lit (.bl false))]))] []), (.par [1, 2] [(.idx (.var 0) (.lit (.int 0))), (.blt .len [(.var 0)])]), (.iff (.cmp .isin (.var 1) (.glo "PLAIN" c_PLAIN)) [(.ret (.tup [(.tup []), (.cmp .eq (.var 2) (.lit (.int 1)))]))] []), (.iff (.cmp .eq (.var 1) (.lit (.str w_pair))) [(.ret (.tup [(.slc (.var 0) (.some (.lit (.int 1))) .none), (.cmp .eq (.var 2) (.lit (.int 3)))]))] []), (.iff (.cmp .eq (.var 1) (.lit (.str w_list))) [(.ret (.tup [(.slc (.var 0) (.some (.lit (.int 1))) .none), (.cmp .eq (.var 2) (.lit (.int 2)))]))] []), (.iff (.cmp .eq (.var 1) (.lit (.str w_fun))) [(.ret (.tup [(.ife (.cmp .eq (.var 2) (.lit (.int 4))) (.tup [(.idx (.var 0) (.lit (.int 1))), (.idx (.var 0) (.lit (.int 3)))]) (.tup [])), (.and (.cmp .eq (.var 2) (.lit (.int 4))) (.call 5 [(.idx (.var 0) (.lit (.int 2)))]))]))] []), (.iff (.cmp .eq (.var 1) (.lit (.str w_own))) [(.ret (.tup [(.tup []), (.and (.cmp .eq (.var 2) (.lit (.int 3))) (.and (.call 0 [(.idx (.var 0) (.lit (.int 1)))]) (.call 0 [(.idx (.var 0) (.lit (.int 2)))])))]))] []), (.ret (.tup [(.tup []), (.and (.cmp .eq (.var 1) (.lit (.str w_var))) (.and (.cmp .eq (.var 2) (.lit (.int 2))) (.call 4 [(.idx (.var 0) (.lit (.int 1))), (.glo "MOST_VARIABLES" c_MOST_VARIABLES)])))]))] }
def d_inner_types : DefS := ⟨"inner_types", defArgs (top 17), defBody (top 17), defScope (top 17), ["value"], []⟩
/-- 7 -/
def f_is_type : Fn := { name := "is_type", N := ["value", "waiting", "parts", "one", "deep", "inner", "right", "part"], ps := 1, gc := true, hd := false, body := [(.par [1, 2] [(.lst true [(.tup [(.var 0), (.lit (.int 1))])]), (.lit (.int 0))]), (.whl (.cmp .ne (.var 1) (.lst false [])) [(.setT (.tup [(.var 3), (.var 4)]) (.mth .pop (.var 1) [])), (.setT (.tup [(.var 5), (.var 6)]) (.call 6 [(.var 3)])), (.aug 2 .add (.lit (.int 1))), (.iff (.or (.not (.var 6)) (.or (.cmp .gt (.var 4) (.glo "MOST_DEEP" c_MOST_DEEP)) (.cmp .gt (.var 2) (.glo "MOST_PARTS" c_MOST_PARTS)))) [(.ret (.lit (.bl false)))] []), (.ex (.mth .extend (.var 1) [(.lc false (.tup [(.var 7), (.bin .add (.var 4) (.lit (.int 1)))]) [7] (.var 7) (.seq (.var 5)) [])]))]), (.ret (.lit (.bl true)))] }
def d_is_type : DefS := ⟨"is_type", defArgs (top 18), defBody (top 18), defScope (top 18), ["value"], []⟩
/-- 8 -/
def f_variables : Fn := { name := "variables", N := ["one", "waiting", "types", "rows", "part", "inner"], ps := 1, gc := true, hd := false, body := [(.par [2, 3] [(.lst true []), (.lst true [])]), (.set 1 (.lst true [(.var 0)])), (.whl (.cmp .ne (.var 1) (.lst false [])) [(.set 4 (.mth .pop (.var 1) [])), (.iff (.isi (.idx (.var 4) (.lit (.int 0))) [.tuple]) [(.iff (.and (.cmp .isnot (.idx (.var 4) (.lit (.int 1))) (.lit .non)) (.cmp .notin (.idx (.var 4) (.lit (.int 1))) (.var 3))) [(.ex (.mth .append (.var 3) [(.idx (.var 4) (.lit (.int 1)))]))] [])] [(.iff (.cmp .eq (.idx (.var 4) (.lit (.int 0))) (.lit (.str w_var))) [(.iff (.cmp .notin (.idx (.var 4) (.lit (.int 1))) (.var 2)) [(.ex (.mth .append (.var 2) [(.idx (.var 4) (.lit (.int 1)))]))] [])] [(.ex (.mth .extend (.var 1) [(.lc false (.var 5) [5] (.var 5) (.seq (.stp (.var 4) none (some (0)) (-1))) [(.isi (.var 5) [.tuple])])]))])])]), (.ret (.tup [(.blt .tuple [(.var 2)]), (.blt .tuple [(.var 3)])]))] }
def d_variables : DefS := ⟨"variables", defArgs (top 19), defBody (top 19), defScope (top 19), ["one"], []⟩
/-- 9 -/
def f_is_closed : Fn := { name := "is_closed", N := ["one"], ps := 1, gc := false, hd := false, body := [(.ret (.cmp .eq (.call 8 [(.var 0)]) (.tup [(.tup []), (.tup [])])))] }
def d_is_closed : DefS := ⟨"is_closed", defArgs (top 20), defBody (top 20), defScope (top 20), ["one"], []⟩
/-- 10 -/
def f_is_scheme : Fn := { name := "is_scheme", N := ["value", "types", "rows"], ps := 1, gc := false, hd := false, body := [(.iff (.or (.not (.isi (.var 0) [.tuple])) (.or (.cmp .ne (.blt .len [(.var 0)]) (.lit (.int 3))) (.not (.call 7 [(.idx (.var 0) (.lit (.int 2)))])))) [(.ret (.lit (.bl false)))] []), (.iff (.or (.not (.call 4 [(.idx (.var 0) (.lit (.int 0))), (.bin .add (.glo "MOST_VARIABLES" c_MOST_VARIABLES) (.lit (.int 1)))])) (.not (.call 4 [(.idx (.var 0) (.lit (.int 1))), (.bin .add (.glo "MOST_VARIABLES" c_MOST_VARIABLES) (.lit (.int 1)))]))) [(.ret (.lit (.bl false)))] []), (.setT (.tup [(.var 1), (.var 2)]) (.call 8 [(.idx (.var 0) (.lit (.int 2)))])), (.ret (.and (.cmp .eq (.var 1) (.trg true (.idx (.var 0) (.lit (.int 0))))) (.cmp .eq (.var 2) (.trg true (.idx (.var 0) (.lit (.int 1)))))))] }
def d_is_scheme : DefS := ⟨"is_scheme", defArgs (top 21), defBody (top 21), defScope (top 21), ["value"], []⟩
/-- 11 -/
def f_are_effects : Fn := { name := "are_effects", N := ["value", "one", "other"], ps := 1, gc := false, hd := false, body := [(.iff (.not (.isi (.var 0) [.tuple])) [(.ret (.lit (.bl false)))] []), (.for_ (.var 1) (.seq (.var 0)) [(.iff (.or (.not (.isi (.var 1) [.tuple])) (.or (.cmp .ne (.blt .len [(.var 1)]) (.lit (.int 3))) (.not (.call 0 [(.idx (.var 1) (.lit (.int 0)))])))) [(.ret (.lit (.bl false)))] []), (.iff (.or (.not (.call 7 [(.idx (.var 1) (.lit (.int 1)))])) (.not (.call 7 [(.idx (.var 1) (.lit (.int 2)))]))) [(.ret (.lit (.bl false)))] []), (.iff (.or (.not (.call 9 [(.idx (.var 1) (.lit (.int 1)))])) (.not (.call 9 [(.idx (.var 1) (.lit (.int 2)))]))) [(.ret (.lit (.bl false)))] [])]), (.ret (.blt .all [(.lc false (.cmp .lt (.idx (.var 1) (.lit (.int 0))) (.idx (.var 2) (.lit (.int 0)))) [1, 2] (.tup [(.var 1), (.var 2)]) (.zip (.var 0) (.slc (.var 0) (.some (.lit (.int 1))) .none)) [])]))] }
def d_are_effects : DefS := ⟨"are_effects", defArgs (top 23), defBody (top 23), defScope (top 23), ["value"], []⟩
/-- 12 -/
def f_is_face : Fn := { name := "is_face", N := ["value", "one", "other"], ps := 1, gc := false, hd := false, body := [(.iff (.or (.not (.isi (.var 0) [.tuple])) (.or (.cmp .ne (.blt .len [(.var 0)]) (.lit (.int 4))) (.not (.call 0 [(.idx (.var 0) (.lit (.int 0)))])))) [(.ret (.lit (.bl false)))] []), (.iff (.or (.not (.call 11 [(.idx (.var 0) (.lit (.int 1)))])) (.or (.not (.call 2 [(.idx (.var 0) (.lit (.int 2)))])) (.not (.isi (.idx (.var 0) (.lit (.int 3))) [.tuple])))) [(.ret (.lit (.bl false)))] []), (.for_ (.var 1) (.seq (.idx (.var 0) (.lit (.int 3)))) [(.iff (.or (.not (.isi (.var 1) [.tuple])) (.or (.cmp .ne (.blt .len [(.var 1)]) (.lit (.int 2))) (.or (.not (.call 0 [(.idx (.var 1) (.lit (.int 0)))])) (.not (.call 10 [(.idx (.var 1) (.lit (.int 1)))]))))) [(.ret (.lit (.bl false)))] [])]), (.ret (.blt .all [(.lc false (.cmp .lt (.idx (.var 1) (.lit (.int 0))) (.idx (.var 2) (.lit (.int 0)))) [1, 2] (.tup [(.var 1), (.var 2)]) (.zip (.idx (.var 0) (.lit (.int 3))) (.slc (.idx (.var 0) (.lit (.int 3))) (.some (.lit (.int 1))) .none)) [])]))] }
def d_is_face : DefS := ⟨"is_face", defArgs (top 24), defBody (top 24), defScope (top 24), ["value"], [0]⟩
/-- 13 -/
def f_cut_face : Fn := { name := "cut_face", N := ["face", "effects", "owns", "shown", "kept", "left", "one", "name"], ps := 4, gc := false, hd := false, body := [(.set 4 (.blt .tuple [(.lc false (.var 6) [6] (.var 6) (.seq (.idx (.var 0) (.lit (.int 1)))) [(.cmp .isin (.idx (.var 6) (.lit (.int 0))) (.var 1))])])), (.set 5 (.blt .tuple [(.lc false (.var 6) [6] (.var 6) (.seq (.idx (.var 0) (.lit (.int 3)))) [(.cmp .isin (.idx (.var 6) (.lit (.int 0))) (.var 3))])])), (.ret (.tup [(.idx (.var 0) (.lit (.int 0))), (.var 4), (.blt .tuple [(.lc false (.var 7) [7] (.var 7) (.seq (.idx (.var 0) (.lit (.int 2)))) [(.cmp .isin (.var 7) (.var 2))])]), (.var 5)]))] }
def d_cut_face : DefS := ⟨"cut_face", defArgs (top 25), defBody (top 25), defScope (top 25), ["face", "effects", "owns", "shown"], [0]⟩
/-- 14 -/
def f__law_draw : Fn := { name := "_law_draw", N := ["script", "salt", "cells", "blend", "cell"], ps := 2, gc := false, hd := false, body := [(.set 2 (.lc false (.blt .abs [(.blt .int [(.var 4)])]) [4] (.var 4) (.seq (.slc (.var 0) .none (.some (.lit (.int 48))))) [])), (.set 3 (.bin .add (.lit (.int 7919)) (.bin .mul (.lit (.int 104729)) (.var 1)))), (.for_ (.var 4) (.seq (.var 2)) [(.set 3 (.bin .mod (.blt .int [(.bin .add (.bin .add (.bin .mul (.var 3) (.lit (.int 48271))) (.bin .mod (.var 4) (.lit (.int 2147483549)))) (.lit (.int 11)))]) (.lit (.int 2147483647))))]), (.ret (.lst true [(.rev true (.lc false (.var 4) [4] (.var 4) (.seq (.var 2)) [(.cmp .ge (.var 4) (.bin .pow (.lit (.int 10)) (.lit (.int 18))))])), (.var 3)]))] }
def d__law_draw : DefS := ⟨"_law_draw", defArgs (top 27), defBody (top 27), defScope (top 27), ["script", "salt"], []⟩
/-- 15 -/
def f__law_any : Fn := { name := "_law_any", N := ["deal", "bound", "rest"], ps := 2, gc := false, hd := false, body := [(.whl (.and (.cmp .ne (.idx (.var 0) (.lit (.int 0))) (.lst false [])) (.cmp .eq (.idx (.idx (.var 0) (.lit (.int 0))) (.neg (.lit (.int 1)))) (.lit (.int 0)))) [(.ex (.mth .pop (.idx (.var 0) (.lit (.int 0))) []))]), (.iff (.cmp .ne (.idx (.var 0) (.lit (.int 0))) (.lst false [])) [(.set 2 (.blt .int [(.mth .pop (.idx (.var 0) (.lit (.int 0))) [])])), (.ex (.mth .append (.idx (.var 0) (.lit (.int 0))) [(.bin .fdiv (.var 2) (.var 1))])), (.ret (.bin .mod (.var 2) (.var 1)))] []), (.setI (.var 0) (.lit (.int 1)) (.bin .mod (.blt .int [(.bin .add (.bin .mul (.idx (.var 0) (.lit (.int 1))) (.lit (.int 40693))) (.lit (.int 71)))]) (.lit (.int 2147483647)))), (.ret (.bin .mod (.blt .int [(.bin .fdiv (.idx (.var 0) (.lit (.int 1))) (.lit (.int 64)))]) (.var 1)))] }
def d__law_any : DefS := ⟨"_law_any", defArgs (top 28), defBody (top 28), defScope (top 28), ["deal", "bound"], []⟩
/-- 16 -/
def f__law_of : Fn := { name := "_law_of", N := ["deal", "some"], ps := 2, gc := false, hd := false, body := [(.ret (.idx (.var 1) (.call 15 [(.var 0), (.blt .len [(.var 1)])])))] }
def d__law_of : DefS := ⟨"_law_of", defArgs (top 29), defBody (top 29), defScope (top 29), ["deal", "some"], []⟩
/-- 17 -/
def f__law_same : Fn := { name := "_law_same", N := ["value", "due", "one", "other"], ps := 2, gc := false, hd := false, body := [(.iff (.isi (.var 1) [.tuple, .list]) [(.iff (.or (.cmp .ne (.isi (.var 1) [.tuple]) (.isi (.var 0) [.tuple])) (.or (.not (.isi (.var 0) [.tuple, .list])) (.cmp .ne (.blt .len [(.var 0)]) (.blt .len [(.var 1)])))) [(.ret (.lit (.bl false)))] []), (.ret (.cmp .eq (.lc false (.lit (.int 0)) [2, 3] (.tup [(.var 2), (.var 3)]) (.zip (.var 0) (.var 1)) [(.not (.call 17 [(.var 2), (.var 3)]))]) (.lst false [])))] []), (.iff (.cmp .is (.var 1) (.lit .non)) [(.ret (.cmp .is (.var 0) (.lit .non)))] []), (.iff (.cmp .is (.var 1) (.lit (.bl true))) [(.ret (.cmp .is (.var 0) (.lit (.bl true))))] []), (.iff (.cmp .is (.var 1) (.lit (.bl false))) [(.ret (.cmp .is (.var 0) (.lit (.bl false))))] []), (.iff (.isi (.var 1) [.int]) [(.ret (.and (.isi (.var 0) [.int]) (.and (.not (.isi (.var 0) [.bool])) (.cmp .eq (.var 0) (.var 1)))))] []), (.ret (.and (.isi (.var 0) [.str]) (.cmp .eq (.var 0) (.var 1))))] }
def d__law_same : DefS := ⟨"_law_same", defArgs (top 30), defBody (top 30), defScope (top 30), ["value", "due"], []⟩
/-- 18 -/
def f__law_is_name : Fn := { name := "_law_is_name", N := ["value", "words", "sign"], ps := 1, gc := false, hd := false, body := [(.set 1 (.spl w__5 w__6 [w_piece, w_needs, w_effect, w_own, w_let, w_rec, w_in, w_show, w_fun, w_if, w_then, w_else, w_case, w_of, w_none, w_put, w_do, w_catch, w_with, w_seal, w_open, w_first, w_second, w_true, w_false, w_unit, w_int, w_truth, w_pair, w_list, w_add, w_sub, w_mul, w_less, w_same, w_not, w_end])), (.iff (.or (.not (.isi (.var 0) [.str])) (.or (.not (.cmp2 .le .le (.lit (.int 1)) (.blt .len [(.var 0)]) (.lit (.int 12)))) (.cmp .isin (.var 0) (.var 1)))) [(.ret (.lit (.bl false)))] []), (.ret (.and (.cmp .isin (.idx (.var 0) (.lit (.int 0))) (.lit (.str w__40))) (.cmp .eq (.lc false (.var 2) [2] (.var 2) (.seq (.var 0)) [(.cmp .notin (.var 2) (.lit (.str w__41)))]) (.lst false []))))] }
def d__law_is_name : DefS := ⟨"_law_is_name", defArgs (top 31), defBody (top 31), defScope (top 31), ["value"], []⟩
/-- 19 -/
def f__law_name : Fn := { name := "_law_name", N := ["deal", "turn", "found", "letters"], ps := 1, gc := false, hd := false, body := [(.setT (.tup [(.var 3), (.var 2)]) (.tup [(.lit (.str w__40)), (.lit (.str w__42))])), (.iff (.cmp .gt (.call 15 [(.var 0), (.lit (.int 3))]) (.lit (.int 0))) [(.ret (.call 16 [(.var 0), (.lst false [(.lit (.str w_p)), (.lit (.str w_q)), (.lit (.str w_r)), (.lit (.str w_ask)), (.lit (.str w_tell)), (.lit (.str w_box)), (.lit (.str w_main)), (.lit (.str w_x1)), (.lit (.str w_zz))])]))] []), (.for_ (.var 1) (.rng1 (.call 16 [(.var 0), (.lst false [(.lit (.int 1)), (.lit (.int 2)), (.lit (.int 11))])])) [(.set 2 (.bin .add (.var 2) (.idx (.bin .add (.var 3) (.lit (.str w_0123456789))) (.call 15 [(.var 0), (.lit (.int 36))]))))]), (.set 2 (.bin .add (.call 16 [(.var 0), (.lst false [(.lit (.str w_a)), (.lit (.str w_k)), (.lit (.str w_z))])]) (.var 2))), (.ret (.ife (.call 18 [(.var 2)]) (.var 2) (.bin .add (.bin .add (.lit (.str w_q)) (.slc (.var 2) .none (.some (.lit (.int 9))))) (.lit (.str w_0)))))] }
def d__law_name : DefS := ⟨"_law_name", defArgs (top 32), defBody (top 32), defScope (top 32), ["deal"], []⟩
/-- 20 -/
def f__law_labels : Fn := { name := "_law_labels", N := ["deal", "most", "turn"], ps := 2, gc := false, hd := false, body := [(.ret (.blt .tuple [(.sst (.lc false (.tup [(.call 19 [(.var 0)]), (.call 19 [(.var 0)])]) [2] (.var 2) (.rng1 (.call 15 [(.var 0), (.bin .add (.var 1) (.lit (.int 1)))])) []))]))] }
def d__law_labels : DefS := ⟨"_law_labels", defArgs (top 33), defBody (top 33), defScope (top 33), ["deal", "most"], []⟩
/-- 21 -/
def f__law_a_row : Fn := { name := "_law_a_row", N := ["deal", "ends"], ps := 2, gc := false, hd := false, body := [(.ret (.tup [(.call 20 [(.var 0), (.lit (.int 3))]), (.ife (.or (.cmp .eq (.var 1) (.lit (.int 0))) (.cmp .eq (.call 15 [(.var 0), (.lit (.int 2))]) (.lit (.int 0)))) (.lit .non) (.call 15 [(.var 0), (.var 1)]))]))] }
def d__law_a_row : DefS := ⟨"_law_a_row", defArgs (top 34), defBody (top 34), defScope (top 34), ["deal", "ends"], []⟩
/-- 22 -/
def f__law_a_type : Fn := { name := "_law_a_type", N := ["deal", "deep", "types", "ends", "form"], ps := 4, gc := false, hd := false, body := [(.set 4 (.call 15 [(.var 0), (.lit (.int 9))])), (.iff (.or (.cmp .gt (.var 1) (.lit (.int 4))) (.cmp .lt (.var 4) (.lit (.int 2)))) [(.ret (.tup [(.call 16 [(.var 0), (.lst false [(.lit (.str w_int)), (.lit (.str w_truth)), (.lit (.str w_unit))])])]))] []), (.iff (.and (.cmp .eq (.var 4) (.lit (.int 2))) (.cmp .gt (.var 2) (.lit (.int 0)))) [(.ret (.tup [(.lit (.str w_var)), (.call 15 [(.var 0), (.var 2)])]))] []), (.iff (.cmp .lt (.var 4) (.lit (.int 5))) [(.ret (.tup [(.lit (.str w_fun)), (.call 22 [(.var 0), (.bin .add (.var 1) (.lit (.int 1))), (.var 2), (.var 3)]), (.call 21 [(.var 0), (.var 3)]), (.call 22 [(.var 0), (.bin .add (.var 1) (.lit (.int 1))), (.var 2), (.var 3)])]))] []), (.iff (.cmp .eq (.var 4) (.lit (.int 5))) [(.ret (.tup [(.lit (.str w_pair)), (.call 22 [(.var 0), (.bin .add (.var 1) (.lit (.int 1))), (.var 2), (.var 3)]), (.call 22 [(.var 0), (.bin .add (.var 1) (.lit (.int 1))), (.var 2), (.var 3)])]))] []), (.iff (.cmp .eq (.var 4) (.lit (.int 6))) [(.ret (.tup [(.lit (.str w_list)), (.call 22 [(.var 0), (.bin .add (.var 1) (.lit (.int 1))), (.var 2), (.var 3)])]))] []), (.ret (.ife (.cmp .eq (.var 4) (.lit (.int 7))) (.tup [(.lit (.str w_own)), (.call 19 [(.var 0)]), (.call 19 [(.var 0)])]) (.ife (.cmp .gt (.var 2) (.lit (.int 0))) (.tup [(.lit (.str w_var)), (.call 15 [(.var 0), (.var 2)])]) (.tup [(.lit (.str w_int))]))))] }
def d__law_a_type : DefS := ⟨"_law_a_type", defArgs (top 35), defBody (top 35), defScope (top 35), ["deal", "deep", "types", "ends"], []⟩
/-- 23 -/
def f__law_joined_row : Fn := { name := "_law_joined_row", N := ["row", "rows", "end", "other"], ps := 2, gc := false, hd := false, body := [(.for_ (.tup [(.var 2), (.var 3)]) (.seq (.var 1)) [(.iff (.and (.cmp .eq (.idx (.var 0) (.lit (.int 1))) (.var 2)) (.cmp .isnot (.idx (.var 0) (.lit (.int 1))) (.lit .non))) [(.ret (.tup [(.blt .tuple [(.sst (.bin .add (.idx (.var 0) (.lit (.int 0))) (.idx (.var 3) (.lit (.int 0)))))]), (.idx (.var 3) (.lit (.int 1)))]))] [])]), (.ret (.var 0))] }
def d__law_joined_row : DefS := ⟨"_law_joined_row", defArgs (top 36), defBody (top 36), defScope (top 36), ["row", "rows"], []⟩
/-- 24 -/
def f__law_put_in : Fn := { name := "_law_put_in", N := ["one", "types", "rows", "part", "number", "other"], ps := 3, gc := false, hd := false, body := [(.iff (.cmp .eq (.idx (.var 0) (.lit (.int 0))) (.lit (.str w_var))) [(.ret (.idx (.bin .add (.lc false (.var 5) [4, 5] (.tup [(.var 4), (.var 5)]) (.seq (.var 1)) [(.cmp .eq (.var 4) (.idx (.var 0) (.lit (.int 1))))]) (.lst false [(.var 0)])) (.lit (.int 0))))] []), (.iff (.cmp .eq (.idx (.var 0) (.lit (.int 0))) (.lit (.str w_fun))) [(.ret (.tup [(.lit (.str w_fun)), (.call 24 [(.idx (.var 0) (.lit (.int 1))), (.var 1), (.var 2)]), (.call 23 [(.idx (.var 0) (.lit (.int 2))), (.var 2)]), (.call 24 [(.idx (.var 0) (.lit (.int 3))), (.var 1), (.var 2)])]))] []), (.ret (.ife (.cmp .isin (.idx (.var 0) (.lit (.int 0))) (.tup [(.lit (.str w_pair)), (.lit (.str w_list))])) (.bin .add (.tup [(.idx (.var 0) (.lit (.int 0)))]) (.blt .tuple [(.lc false (.call 24 [(.var 3), (.var 1), (.var 2)]) [3] (.var 3) (.seq (.slc (.var 0) (.some (.lit (.int 1))) .none)) [])])) (.var 0)))] }
def d__law_put_in : DefS := ⟨"_law_put_in", defArgs (top 37), defBody (top 37), defScope (top 37), ["one", "types", "rows"], []⟩
/-- 25 -/
def f__law_vars : Fn := { name := "_law_vars", N := ["one", "found", "part", "more", "near", "far"], ps := 1, gc := false, hd := false, body := [(.iff (.cmp .eq (.idx (.var 0) (.lit (.int 0))) (.lit (.str w_var))) [(.ret (.tup [(.lst false [(.idx (.var 0) (.lit (.int 1)))]), (.lst false [])]))] []), (.iff (.cmp .eq (.idx (.var 0) (.lit (.int 0))) (.lit (.str w_fun))) [(.par [4, 5] [(.call 25 [(.idx (.var 0) (.lit (.int 1)))]), (.call 25 [(.idx (.var 0) (.lit (.int 3)))])]), (.ret (.tup [(.bin .add (.idx (.var 4) (.lit (.int 0))) (.idx (.var 5) (.lit (.int 0)))), (.bin .add (.bin .add (.idx (.var 4) (.lit (.int 1))) (.ife (.cmp .is (.idx (.idx (.var 0) (.lit (.int 2))) (.lit (.int 1))) (.lit .non)) (.lst false []) (.lst false [(.idx (.idx (.var 0) (.lit (.int 2))) (.lit (.int 1)))]))) (.idx (.var 5) (.lit (.int 1))))]))] []), (.set 1 (.tup [(.lst false []), (.lst false [])])), (.for_ (.var 2) (.seq (.ife (.cmp .isin (.idx (.var 0) (.lit (.int 0))) (.tup [(.lit (.str w_pair)), (.lit (.str w_list))])) (.slc (.var 0) (.some (.lit (.int 1))) .none) (.tup []))) [(.set 3 (.call 25 [(.var 2)])), (.set 1 (.tup [(.bin .add (.idx (.var 1) (.lit (.int 0))) (.idx (.var 3) (.lit (.int 0)))), (.bin .add (.idx (.var 1) (.lit (.int 1))) (.idx (.var 3) (.lit (.int 1))))]))]), (.ret (.var 1))] }
def d__law_vars : DefS := ⟨"_law_vars", defArgs (top 38), defBody (top 38), defScope (top 38), ["one"], []⟩
/-- 26 -/
def f__law_once : Fn := { name := "_law_once", N := ["some", "at", "one"], ps := 1, gc := false, hd := false, body := [(.ret (.lc false (.var 2) [1, 2] (.tup [(.var 1), (.var 2)]) (.enum (.var 0)) [(.cmp .notin (.var 2) (.slc (.var 0) .none (.some (.var 1))))]))] }
def d__law_once : DefS := ⟨"_law_once", defArgs (top 39), defBody (top 39), defScope (top 39), ["some"], []⟩
/-- 27 -/
def f__law_plain : Fn := { name := "_law_plain", N := ["one", "named", "near", "far", "types", "ends", "new", "old"], ps := 1, gc := false, hd := false, body := [(.setT (.tup [(.var 2), (.var 3)]) (.call 25 [(.var 0)])), (.par [4, 5] [(.call 26 [(.var 2)]), (.call 26 [(.var 3)])]), (.set 1 (.lc false (.tup [(.var 7), (.tup [(.lit (.str w_var)), (.var 6)])]) [6, 7] (.tup [(.var 6), (.var 7)]) (.enum (.var 4)) [])), (.ret (.tup [(.blt .len [(.var 4)]), (.blt .len [(.var 5)]), (.call 24 [(.var 0), (.var 1), (.lc false (.tup [(.var 7), (.tup [(.tup []), (.var 6)])]) [6, 7] (.tup [(.var 6), (.var 7)]) (.enum (.var 5)) [])])]))] }
def d__law_plain : DefS := ⟨"_law_plain", defArgs (top 40), defBody (top 40), defScope (top 40), ["one"], []⟩
/-- 28 -/
def f__law_closed_type : Fn := { name := "_law_closed_type", N := ["deal"], ps := 1, gc := false, hd := false, body := [(.ret (.call 22 [(.var 0), (.lit (.int 2)), (.lit (.int 0)), (.lit (.int 0))]))] }
def d__law_closed_type : DefS := ⟨"_law_closed_type", defArgs (top 41), defBody (top 41), defScope (top 41), ["deal"], []⟩
/-- 29 -/
def f__law_a_face : Fn := { name := "_law_a_face", N := ["deal", "name", "effects", "owns", "values", "one", "turn"], ps := 2, gc := false, hd := false, body := [(.set 2 (.blt .tuple [(.lc false (.tup [(.var 5), (.call 28 [(.var 0)]), (.call 28 [(.var 0)])]) [5] (.var 5) (.seq (.sst (.lc false (.call 19 [(.var 0)]) [6] (.var 6) (.rng1 (.call 15 [(.var 0), (.lit (.int 4))])) []))) [])])), (.set 3 (.blt .tuple [(.sst (.lc false (.call 19 [(.var 0)]) [6] (.var 6) (.rng1 (.call 15 [(.var 0), (.lit (.int 3))])) []))])), (.set 4 (.blt .tuple [(.lc false (.tup [(.var 5), (.call 27 [(.call 22 [(.var 0), (.lit (.int 2)), (.call 15 [(.var 0), (.lit (.int 3))]), (.call 15 [(.var 0), (.lit (.int 3))])])])]) [5] (.var 5) (.seq (.sst (.lc false (.call 19 [(.var 0)]) [6] (.var 6) (.rng1 (.call 15 [(.var 0), (.lit (.int 5))])) []))) [])])), (.ret (.tup [(.var 1), (.var 2), (.var 3), (.var 4)]))] }
def d__law_a_face : DefS := ⟨"_law_a_face", defArgs (top 42), defBody (top 42), defScope (top 42), ["deal", "name"], []⟩
/-- 30 -/
def f__law_is_face : Fn := { name := "_law_is_face", N := ["value", "one", "names", "part"], ps := 1, gc := false, hd := false, body := [(.iff (.or (.not (.isi (.var 0) [.tuple])) (.or (.cmp .ne (.blt .len [(.var 0)]) (.lit (.int 4))) (.or (.not (.call 18 [(.idx (.var 0) (.lit (.int 0)))])) (.cmp .ne (.lc false (.var 3) [3] (.var 3) (.seq (.slc (.var 0) (.some (.lit (.int 1))) .none)) [(.not (.isi (.var 3) [.tuple]))]) (.lst false []))))) [(.ret (.lit (.bl false)))] []), (.for_ (.var 1) (.seq (.idx (.var 0) (.lit (.int 1)))) [(.iff (.or (.not (.isi (.var 1) [.tuple])) (.or (.cmp .ne (.blt .len [(.var 1)]) (.lit (.int 3))) (.or (.not (.call 18 [(.idx (.var 1) (.lit (.int 0)))])) (.cmp .ne (.lc false (.var 3) [3] (.var 3) (.seq (.slc (.var 1) (.some (.lit (.int 1))) .none)) [(.or (.not (.call 7 [(.var 3)])) (.not (.call 9 [(.var 3)])))]) (.lst false []))))) [(.ret (.lit (.bl false)))] [])]), (.for_ (.var 1) (.seq (.idx (.var 0) (.lit (.int 3)))) [(.iff (.or (.not (.isi (.var 1) [.tuple])) (.or (.cmp .ne (.blt .len [(.var 1)]) (.lit (.int 2))) (.or (.not (.call 18 [(.idx (.var 1) (.lit (.int 0)))])) (.not (.call 10 [(.idx (.var 1) (.lit (.int 1)))]))))) [(.ret (.lit (.bl false)))] [])]), (.iff (.cmp .ne (.lc false (.var 1) [1] (.var 1) (.seq (.idx (.var 0) (.lit (.int 2)))) [(.not (.call 18 [(.var 1)]))]) (.lst false [])) [(.ret (.lit (.bl false)))] []), (.for_ (.var 2) (.seq (.lst false [(.lc false (.idx (.var 1) (.lit (.int 0))) [1] (.var 1) (.seq (.idx (.var 0) (.lit (.int 1)))) []), (.blt .list [(.idx (.var 0) (.lit (.int 2)))]), (.lc false (.idx (.var 1) (.lit (.int 0))) [1] (.var 1) (.seq (.idx (.var 0) (.lit (.int 3)))) [])])) [(.iff (.cmp .ne (.var 2) (.sst (.var 2))) [(.ret (.lit (.bl false)))] [])]), (.ret (.lit (.bl true)))] }
def d__law_is_face : DefS := ⟨"_law_is_face", defArgs (top 43), defBody (top 43), defScope (top 43), ["value"], []⟩
/-- 31 -/
def f__law_bent : Fn := { name := "_law_bent", N := ["deal", "face", "part", "row", "bent", "at", "odd"], ps := 2, gc := false, hd := false, body := [(.set 2 (.bin .add (.lit (.int 1)) (.call 15 [(.var 0), (.lit (.int 3))]))), (.set 3 (.idx (.var 1) (.var 2))), (.par [5, 6] [(.call 15 [(.var 0), (.bin .add (.blt .len [(.var 3)]) (.lit (.int 1)))]), (.call 16 [(.var 0), (.lst false [(.lit .non), (.lit (.str w_let)), (.tup []), (.tup [(.lit (.str w_ask))]), (.tup [(.lit (.str w_ask)), (.tup [(.lit (.str w_int))]), (.tup [(.lit (.str w_var)), (.lit (.int 0))])]), (.tup [(.lit (.str w_zz)), (.tup [(.lit (.int 0)), (.lit (.int 0)), (.tup [(.lit (.str w_var)), (.lit (.int 0))])])]), (.lit (.str w_A)), (.tup [(.lit (.str w_q)), (.tup [(.lit (.str w_int))]), (.tup [(.lit (.str w_int))]), (.tup [(.lit (.str w_int))])]), (.lit (.int 3))])])]), (.set 4 (.call 16 [(.var 0), (.lst false [(.bin .add (.bin .add (.slc (.var 3) .none (.some (.var 5))) (.tup [(.var 6)])) (.slc (.var 3) (.some (.var 5)) .none)), (.stp (.var 3) none none (-1)), (.bin .add (.var 3) (.slc (.var 3) .none (.some (.lit (.int 1))))), (.blt .list [(.var 3)]), (.lit .non), (.slc (.var 3) (.some (.lit (.int 1))) .none), (.var 3)])])), (.ret (.call 16 [(.var 0), (.bin .add (.bin .mul (.lst false [(.bin .add (.bin .add (.slc (.var 1) .none (.some (.var 2))) (.tup [(.var 4)])) (.slc (.var 1) (.some (.bin .add (.var 2) (.lit (.int 1)))) .none))]) (.lit (.int 4))) (.lst false [(.blt .list [(.var 1)]), (.bin .add (.var 1) (.tup [(.tup [])])), (.slc (.var 1) .none (.some (.lit (.int 3)))), (.bin .add (.tup [(.lit (.str w_let))]) (.slc (.var 1) (.some (.lit (.int 1))) .none)), (.lit .non), (.var 1)]))]))] }
def d__law_bent : DefS := ⟨"_law_bent", defArgs (top 44), defBody (top 44), defScope (top 44), ["deal", "face"], []⟩
/-- 32 -/
def f_law : Fn := { name := "law", N := ["script", "deal", "turn", "face", "value", "effects", "due", "owns", "shown", "place", "one"], ps := 1, gc := false, hd := false, body := [(.set 1 (.call 14 [(.var 0), (.lit (.int 4))])), (.for_ (.var 2) (.rng1 (.lit (.int 5))) [(.set 3 (.call 29 [(.var 1), (.call 19 [(.var 1)])])), (.iff (.not (.call 17 [(.call 12 [(.var 3)]), (.lit (.bl true))])) [(.ret (.lit (.bl false)))] []), (.for_ (.var 4) (.seq (.lc false (.call 31 [(.var 1), (.var 3)]) [9] (.var 9) (.rng1 (.lit (.int 6))) [])) [(.iff (.not (.call 17 [(.call 12 [(.var 4)]), (.call 30 [(.var 4)])])) [(.ret (.lit (.bl false)))] [])]), (.set 5 (.blt .tuple [(.bin .add (.lc false (.idx (.var 10) (.lit (.int 0))) [10] (.var 10) (.seq (.idx (.var 3) (.lit (.int 1)))) [(.cmp .eq (.call 15 [(.var 1), (.lit (.int 2))]) (.lit (.int 0)))]) (.lst false [(.lit (.str w_zz9))]))])), (.setT (.tup [(.var 7), (.var 8)]) (.tup [(.blt .tuple [(.lc false (.var 10) [10] (.var 10) (.seq (.idx (.var 3) (.lit (.int 2)))) [(.cmp .eq (.call 15 [(.var 1), (.lit (.int 2))]) (.lit (.int 0)))])]), (.blt .tuple [(.lc false (.idx (.var 10) (.lit (.int 0))) [10] (.var 10) (.seq (.idx (.var 3) (.lit (.int 3)))) [(.cmp .eq (.call 15 [(.var 1), (.lit (.int 2))]) (.lit (.int 0)))])])])), (.set 6 (.tup [(.idx (.var 3) (.lit (.int 0))), (.blt .tuple [(.lc false (.var 10) [10] (.var 10) (.seq (.idx (.var 3) (.lit (.int 1)))) [(.cmp .isin (.idx (.var 10) (.lit (.int 0))) (.var 5))])]), (.var 7), (.blt .tuple [(.lc false (.var 10) [10] (.var 10) (.seq (.idx (.var 3) (.lit (.int 3)))) [(.cmp .isin (.idx (.var 10) (.lit (.int 0))) (.var 8))])])])), (.iff (.not (.call 17 [(.lst false [(.call 13 [(.var 3), (.var 5), (.var 7), (.var 8)]), (.call 12 [(.var 6)])]), (.lst false [(.var 6), (.lit (.bl true))])])) [(.ret (.lit (.bl false)))] [])]), (.ret (.lit (.bl true)))] }
def d_law : DefS := ⟨"law", defArgs (top 45), defBody (top 45), defScope (top 45), ["script"], []⟩
def pg : Pg := ([f_is_name, f_is_label, f_are_names, f_is_integer, f_is_index, f_is_row, f_inner_types, f_is_type, f_variables, f_is_closed, f_is_scheme, f_are_effects] : List Fn) ++ ([f_is_face, f_cut_face, f__law_draw, f__law_any, f__law_of, f__law_same, f__law_is_name, f__law_name, f__law_labels, f__law_a_row, f__law_a_type, f__law_joined_row] : List Fn) ++ ([f__law_put_in, f__law_vars, f__law_once, f__law_plain, f__law_closed_type, f__law_a_face, f__law_is_face, f__law_bent, f_law] : List Fn)
def ds : List DefS := ([d_is_name, d_is_label, d_are_names, d_is_integer, d_is_index, d_is_row, d_inner_types, d_is_type, d_variables, d_is_closed, d_is_scheme, d_are_effects] : List DefS) ++ ([d_is_face, d_cut_face, d__law_draw, d__law_any, d__law_of, d__law_same, d__law_is_name, d__law_name, d__law_labels, d__law_a_row, d__law_a_type, d__law_joined_row] : List DefS) ++ ([d__law_put_in, d__law_vars, d__law_once, d__law_plain, d__law_closed_type, d__law_a_face, d__law_is_face, d__law_bent, d_law] : List DefS)
def con : List (Str × D) := ([("LETTERS", c_LETTERS), ("DIGITS", c_DIGITS), ("MOST_SIGNS", c_MOST_SIGNS), ("WORDS", c_WORDS), ("MOST_DEEP", c_MOST_DEEP), ("MOST_PARTS", c_MOST_PARTS), ("MOST_VARIABLES", c_MOST_VARIABLES), ("PLAIN", c_PLAIN)] : List (Str × D))
def blts : List Str := (["abs", "all", "bool", "enumerate", "int", "isinstance", "len", "list", "range", "set", "sorted", "str"] : List Str) ++ (["tuple", "zip"] : List Str)
def mo : Mo := { con := con, blts := blts, hds := [], excs := ([] : List Str), exm := ([] : List (Str × Str × Bool)) }
end K04
set_option Elab.async false
set_option linter.all false
set_option maxRecDepth 100000
set_option maxHeartbeats 4000000
/-! K04P: faces: what the program judges. -/
namespace K04
open PySem PySem.Spec PyProof.Rows L2 Dw LL
def B : LL.Base2 pg where
  i_is_name := 0
  i_is_label := 1
  i_is_integer := 3
  i_is_index := 4
  i_is_row := 5
  i_inner_types := 6
  i_is_type := 7
  i_checked_type := 999
  i_variables := 8
  i_is_closed := 9
  i_drawL := 14
  i_anyL := 15
  i_ofL := 16
  i_sameL := 17
  i_is_intL := 999
  i_is_nameL := 18
  i_nameL := 19
  i_labelsL := 20
  i_a_rowL := 21
  i_a_typeL := 22
  i_varsL := 25
  i_is_scheme := 10
  i_joined_rowL := 23
  i_put_inL := 24
  i_onceL := 26
  i_plainL := 27
  h_is_name := rfl
  h_is_label := rfl
  h_is_integer := rfl
  h_is_index := rfl
  h_is_row := rfl
  h_inner_types := rfl
  h_is_type := rfl
  h_variables := rfl
  h_is_closed := rfl
  h_drawL := rfl
  h_anyL := rfl
  h_ofL := rfl
  h_sameL := rfl
  h_is_nameL := rfl
  h_nameL := rfl
  h_labelsL := rfl
  h_a_rowL := rfl
  h_a_typeL := rfl
  h_varsL := rfl
  h_is_scheme := rfl
  h_joined_rowL := rfl
  h_put_inL := rfl
  h_onceL := rfl
  h_plainL := rfl
abbrev BB : LL.Base pg := B.toBase
def firstD : D → D
  | .tup (n :: _) => n
  | d => d
noncomputable def effB : D → Bool
  | .tup [n, a, b] => nameD n && closedD a && closedD b
  | _ => false
noncomputable def valB : D → Bool
  | .tup [n, s] => nameD n && schemeD s
  | _ => false
noncomputable def effsB : D → Bool
  | .tup es => es.all effB && sortedB (es.map firstD)
  | _ => false
def namesB : D → Bool
  | .tup os => os.all nameD && sortedB os
  | _ => false
noncomputable def valsB : D → Bool
  | .tup vs => vs.all valB && sortedB (vs.map firstD)
  | _ => false
noncomputable def faceB : D → Bool
  | .tup [n, es, os, vs] => nameD n && effsB es && namesB os && valsB vs
  | _ => false
def ltP1 : D → Bool
  | .tup [a, b] => ltD (firstD a) (firstD b)
  | _ => false
def lt1F (d : D) : D := .bl (ltP1 d)
theorem bls_lt1 (xs : List D) : blsOf (xs.map lt1F) = some (xs.map ltP1) := by
  induction xs with
  | nil => rfl
  | cons x xs ih => show (blsOf _).map _ = _; rw [ih]; rfl
theorem zip_sorted1 : ∀ ls : List D, (zipD ls (ls.drop 1)).all ltP1 = sortedB (ls.map firstD)
  | [] => rfl
  | [_] => rfl
  | a :: b :: r => by
    have ih := zip_sorted1 (b :: r)
    show (ltP1 (.tup [a, b]) && (zipD (b :: r) r).all ltP1) = _
    rw [List.map_cons, List.map_cons, show sortedB (firstD a :: firstD b :: r.map firstD) = (ltD (firstD a) (firstD b) && sortedB (firstD b :: r.map firstD)) from rfl, ← List.map_cons, ← ih]
    rfl
theorem name_str {d : D} (h : nameD d = true) : ∃ x, d = .str x ∧ nameB x = true := by
  unfold nameD at h
  cases d <;> first | (cases h; done) | skip
  exact ⟨_, rfl, h⟩
theorem eff_name {e : D} (h : effB e = true) : ∃ x r, e = .tup (.str x :: r) ∧ nameB x = true := by
  unfold effB at h
  split at h
  · simp only [Bool.and_eq_true] at h
    obtain ⟨x, rfl, hx⟩ := name_str h.1.1
    exact ⟨x, _, rfl, hx⟩
  · cases h
theorem val_name {e : D} (h : valB e = true) : ∃ x r, e = .tup (.str x :: r) ∧ nameB x = true := by
  unfold valB at h
  split at h
  · simp only [Bool.and_eq_true] at h
    obtain ⟨x, rfl, hx⟩ := name_str h.1
    exact ⟨x, _, rfl, hx⟩
  · cases h
theorem zip_tail1 (ls : List D) : (zipD ls ls.tail).all ltP1 = sortedB (ls.map firstD) := by
  rw [← List.drop_one]
  exact zip_sorted1 ls
theorem zip_tail (ls : List D) : (zipD ls ls.tail).all ltPB = sortedB ls := by
  rw [← List.drop_one]
  exact zip_sorted ls
theorem lt_str (x y : List Nat) : ltD (.str x) (.str y) = lexL x y := rfl
/-- a member of a face's part -/
def Mem1 (e : D) : Prop := plainD e = true ∧ narrow e = true ∧ sz e ≤ 1000000
variable {j : Nat} {M : DM} {Qx : QX} {Q : QD}
theorem closed_any {t : D} (hj : 2 ≤ j) (hn : narrow t = true) (h : typeB t = true) (hQ : Q (.bl (closedD t)) M) : (callW pg j).run 9 [t] M Qx Q := by
  obtain ⟨τ, rfl, ok, hh, hs⟩ := type_tree hn h
  refine closed_at BB hj ok (by omega) ?_
  simpa [closedD, h, treeOf_d ok] using hQ
theorem mem_tup {ds : List D} (h : Mem1 (.tup ds)) : ∀ d ∈ ds, Mem1 d := by
  intro d hd
  obtain ⟨h1, h2, h3⟩ := h
  simp only [narrow, Bool.and_eq_true] at h2
  refine ⟨plain_mem h1 d hd, narrow_mem h2.2 d hd, ?_⟩
  have : ∀ (ds : List D), d ∈ ds → sz d ≤ szs ds := by
    intro ds
    induction ds with
    | nil => intro h; cases h
    | cons x xs ih =>
      intro h
      simp only [szs]
      rcases List.mem_cons.mp h with rfl | h
      · omega
      · have := ih h; omega
  have := this ds hd
  simp only [sz] at h3
  omega
/-! ### effects -/
def eb : List S := match f_are_effects.body with
    | [_, .for_ _ _ b, _] => b
    | _ => []
theorem eff_step {k : Nat} (hk : 5 ≤ k) {N : DS → DM → Prop} {E : DEnds} {V e2 : Option D} {e : D} (m : Mem1 e) (h1 : effB e = true → N [V, some e, e2] M) (h0 : effB e = false → E.rt (.bl false) M) : wpSs (callW pg k) eb { E with nx := N, ct := N, bk := E.nx } [V, some e, e2] M := by
  obtain ⟨mp, mn, ms⟩ := id m
  cases e with
  | tup ds =>
    match ds, m, h1, h0 with
    | [], m, h1, h0 =>
      simp [Dw.wpT, wpE, wpA, wpI, wpO, wpSs, Dw.wpS, res, lookD, cmpR, ifD, truthD, backQ, backX, Dw.start, isiR, isTys, isTy, notR, bltR, lenOf, seqOf, okEq, okIn, plainD, plainDs, deepD, deepDs, eq_ss, eq_tt, eq_ll, eqDs, idxR, setDs, Dw.inR, slcV, newL, sameC, mthR, rcvOk, lstAt, resM, tgT, tgTs, Dw.augR, Dw.intD, updM_same, seqI, resI, binR, negR, anyM, flat_tup, flat_str, flat_int, flat_lst, flat_bl, flat_non, eb, f_are_effects]
      exact h0 rfl
    | [x], m, h1, h0 =>
      simp [Dw.wpT, wpE, wpA, wpI, wpO, wpSs, Dw.wpS, res, lookD, cmpR, ifD, truthD, backQ, backX, Dw.start, isiR, isTys, isTy, notR, bltR, lenOf, seqOf, okEq, okIn, plainD, plainDs, deepD, deepDs, eq_ss, eq_tt, eq_ll, eqDs, idxR, setDs, Dw.inR, slcV, newL, sameC, mthR, rcvOk, lstAt, resM, tgT, tgTs, Dw.augR, Dw.intD, updM_same, seqI, resI, binR, negR, anyM, flat_tup, flat_str, flat_int, flat_lst, flat_bl, flat_non, eb, f_are_effects]
      exact h0 rfl
    | [x, y], m, h1, h0 =>
      simp [Dw.wpT, wpE, wpA, wpI, wpO, wpSs, Dw.wpS, res, lookD, cmpR, ifD, truthD, backQ, backX, Dw.start, isiR, isTys, isTy, notR, bltR, lenOf, seqOf, okEq, okIn, plainD, plainDs, deepD, deepDs, eq_ss, eq_tt, eq_ll, eqDs, idxR, setDs, Dw.inR, slcV, newL, sameC, mthR, rcvOk, lstAt, resM, tgT, tgTs, Dw.augR, Dw.intD, updM_same, seqI, resI, binR, negR, anyM, flat_tup, flat_str, flat_int, flat_lst, flat_bl, flat_non, eb, f_are_effects]
      exact h0 rfl
    | x :: y :: z :: u :: r, m, h1, h0 =>
      simp [Dw.wpT, wpE, wpA, wpI, wpO, wpSs, Dw.wpS, res, lookD, cmpR, ifD, truthD, backQ, backX, Dw.start, isiR, isTys, isTy, notR, bltR, lenOf, seqOf, okEq, okIn, plainD, plainDs, deepD, deepDs, eq_ss, eq_tt, eq_ll, eqDs, idxR, setDs, Dw.inR, slcV, newL, sameC, mthR, rcvOk, lstAt, resM, tgT, tgTs, Dw.augR, Dw.intD, updM_same, seqI, resI, binR, negR, anyM, flat_tup, flat_str, flat_int, flat_lst, flat_bl, flat_non, eb, f_are_effects, len_e3]
      exact h0 rfl
    | [n, a, b], m, h1, h0 =>
      have mn := mem_tup m n (by simp)
      have ma := mem_tup m a (by simp)
      have mb := mem_tup m b (by simp)
      simp [Dw.wpT, wpE, wpA, wpI, wpO, wpSs, Dw.wpS, res, lookD, cmpR, ifD, truthD, backQ, backX, Dw.start, isiR, isTys, isTy, notR, bltR, lenOf, seqOf, okEq, okIn, plainD, plainDs, deepD, deepDs, eq_ss, eq_tt, eq_ll, eqDs, idxR, setDs, Dw.inR, slcV, newL, sameC, mthR, rcvOk, lstAt, resM, tgT, tgTs, Dw.augR, Dw.intD, updM_same, seqI, resI, binR, negR, anyM, flat_tup, flat_str, flat_int, flat_lst, flat_bl, flat_non, eb, f_are_effects, ixD]
      refine name_any BB (by omega) mn.1 ?_
      cases c1 : nameD n with
      | false =>
        try simp [Dw.wpT, wpE, wpA, wpI, wpO, wpSs, Dw.wpS, res, lookD, cmpR, ifD, truthD, backQ, backX, Dw.start, isiR, isTys, isTy, notR, bltR, lenOf, seqOf, okEq, okIn, plainD, plainDs, deepD, deepDs, eq_ss, eq_tt, eq_ll, eqDs, idxR, setDs, Dw.inR, slcV, newL, sameC, mthR, rcvOk, lstAt, resM, tgT, tgTs, Dw.augR, Dw.intD, updM_same, seqI, resI, binR, negR, anyM, flat_tup, flat_str, flat_int, flat_lst, flat_bl, flat_non]
        exact h0 (by simp [effB, c1])
      | true =>
        try simp [Dw.wpT, wpE, wpA, wpI, wpO, wpSs, Dw.wpS, res, lookD, cmpR, ifD, truthD, backQ, backX, Dw.start, isiR, isTys, isTy, notR, bltR, lenOf, seqOf, okEq, okIn, plainD, plainDs, deepD, deepDs, eq_ss, eq_tt, eq_ll, eqDs, idxR, setDs, Dw.inR, slcV, newL, sameC, mthR, rcvOk, lstAt, resM, tgT, tgTs, Dw.augR, Dw.intD, updM_same, seqI, resI, binR, negR, anyM, flat_tup, flat_str, flat_int, flat_lst, flat_bl, flat_non]
        refine type_any BB (by omega) ma.1 ma.2.2 ?_
        cases c2 : typeB a with
        | false =>
          try simp [Dw.wpT, wpE, wpA, wpI, wpO, wpSs, Dw.wpS, res, lookD, cmpR, ifD, truthD, backQ, backX, Dw.start, isiR, isTys, isTy, notR, bltR, lenOf, seqOf, okEq, okIn, plainD, plainDs, deepD, deepDs, eq_ss, eq_tt, eq_ll, eqDs, idxR, setDs, Dw.inR, slcV, newL, sameC, mthR, rcvOk, lstAt, resM, tgT, tgTs, Dw.augR, Dw.intD, updM_same, seqI, resI, binR, negR, anyM, flat_tup, flat_str, flat_int, flat_lst, flat_bl, flat_non]
          exact h0 (by simp [effB, closedD, c2])
        | true =>
          try simp [Dw.wpT, wpE, wpA, wpI, wpO, wpSs, Dw.wpS, res, lookD, cmpR, ifD, truthD, backQ, backX, Dw.start, isiR, isTys, isTy, notR, bltR, lenOf, seqOf, okEq, okIn, plainD, plainDs, deepD, deepDs, eq_ss, eq_tt, eq_ll, eqDs, idxR, setDs, Dw.inR, slcV, newL, sameC, mthR, rcvOk, lstAt, resM, tgT, tgTs, Dw.augR, Dw.intD, updM_same, seqI, resI, binR, negR, anyM, flat_tup, flat_str, flat_int, flat_lst, flat_bl, flat_non]
          refine type_any BB (by omega) mb.1 mb.2.2 ?_
          cases c3 : typeB b with
          | false =>
            try simp [Dw.wpT, wpE, wpA, wpI, wpO, wpSs, Dw.wpS, res, lookD, cmpR, ifD, truthD, backQ, backX, Dw.start, isiR, isTys, isTy, notR, bltR, lenOf, seqOf, okEq, okIn, plainD, plainDs, deepD, deepDs, eq_ss, eq_tt, eq_ll, eqDs, idxR, setDs, Dw.inR, slcV, newL, sameC, mthR, rcvOk, lstAt, resM, tgT, tgTs, Dw.augR, Dw.intD, updM_same, seqI, resI, binR, negR, anyM, flat_tup, flat_str, flat_int, flat_lst, flat_bl, flat_non]
            exact h0 (by simp [effB, closedD, c3])
          | true =>
            try simp [Dw.wpT, wpE, wpA, wpI, wpO, wpSs, Dw.wpS, res, lookD, cmpR, ifD, truthD, backQ, backX, Dw.start, isiR, isTys, isTy, notR, bltR, lenOf, seqOf, okEq, okIn, plainD, plainDs, deepD, deepDs, eq_ss, eq_tt, eq_ll, eqDs, idxR, setDs, Dw.inR, slcV, newL, sameC, mthR, rcvOk, lstAt, resM, tgT, tgTs, Dw.augR, Dw.intD, updM_same, seqI, resI, binR, negR, anyM, flat_tup, flat_str, flat_int, flat_lst, flat_bl, flat_non]
            refine closed_any (by omega) ma.2.1 c2 ?_
            cases c4 : closedD a with
            | false =>
              try simp [Dw.wpT, wpE, wpA, wpI, wpO, wpSs, Dw.wpS, res, lookD, cmpR, ifD, truthD, backQ, backX, Dw.start, isiR, isTys, isTy, notR, bltR, lenOf, seqOf, okEq, okIn, plainD, plainDs, deepD, deepDs, eq_ss, eq_tt, eq_ll, eqDs, idxR, setDs, Dw.inR, slcV, newL, sameC, mthR, rcvOk, lstAt, resM, tgT, tgTs, Dw.augR, Dw.intD, updM_same, seqI, resI, binR, negR, anyM, flat_tup, flat_str, flat_int, flat_lst, flat_bl, flat_non]
              exact h0 (by simp [effB, c4])
            | true =>
              try simp [Dw.wpT, wpE, wpA, wpI, wpO, wpSs, Dw.wpS, res, lookD, cmpR, ifD, truthD, backQ, backX, Dw.start, isiR, isTys, isTy, notR, bltR, lenOf, seqOf, okEq, okIn, plainD, plainDs, deepD, deepDs, eq_ss, eq_tt, eq_ll, eqDs, idxR, setDs, Dw.inR, slcV, newL, sameC, mthR, rcvOk, lstAt, resM, tgT, tgTs, Dw.augR, Dw.intD, updM_same, seqI, resI, binR, negR, anyM, flat_tup, flat_str, flat_int, flat_lst, flat_bl, flat_non]
              refine closed_any (by omega) mb.2.1 c3 ?_
              cases c5 : closedD b with
              | false =>
                try simp [Dw.wpT, wpE, wpA, wpI, wpO, wpSs, Dw.wpS, res, lookD, cmpR, ifD, truthD, backQ, backX, Dw.start, isiR, isTys, isTy, notR, bltR, lenOf, seqOf, okEq, okIn, plainD, plainDs, deepD, deepDs, eq_ss, eq_tt, eq_ll, eqDs, idxR, setDs, Dw.inR, slcV, newL, sameC, mthR, rcvOk, lstAt, resM, tgT, tgTs, Dw.augR, Dw.intD, updM_same, seqI, resI, binR, negR, anyM, flat_tup, flat_str, flat_int, flat_lst, flat_bl, flat_non]
                exact h0 (by simp [effB, c5])
              | true =>
                try simp [Dw.wpT, wpE, wpA, wpI, wpO, wpSs, Dw.wpS, res, lookD, cmpR, ifD, truthD, backQ, backX, Dw.start, isiR, isTys, isTy, notR, bltR, lenOf, seqOf, okEq, okIn, plainD, plainDs, deepD, deepDs, eq_ss, eq_tt, eq_ll, eqDs, idxR, setDs, Dw.inR, slcV, newL, sameC, mthR, rcvOk, lstAt, resM, tgT, tgTs, Dw.augR, Dw.intD, updM_same, seqI, resI, binR, negR, anyM, flat_tup, flat_str, flat_int, flat_lst, flat_bl, flat_non]
                exact h1 (by simp [effB, c1, c4, c5])
  | _ =>
    first
    | (cases mp; done)
    | (simp [Dw.wpT, wpE, wpA, wpI, wpO, wpSs, Dw.wpS, res, lookD, cmpR, ifD, truthD, backQ, backX, Dw.start, isiR, isTys, isTy, notR, bltR, lenOf, seqOf, okEq, okIn, plainD, plainDs, deepD, deepDs, eq_ss, eq_tt, eq_ll, eqDs, idxR, setDs, Dw.inR, slcV, newL, sameC, mthR, rcvOk, lstAt, resM, tgT, tgTs, Dw.augR, Dw.intD, updM_same, seqI, resI, binR, negR, anyM, flat_tup, flat_str, flat_int, flat_lst, flat_bl, flat_non, eb, f_are_effects]; exact h0 rfl)
theorem eff_loop {k : Nat} (hk : 5 ≤ k) {E : DEnds} {V e2 : Option D} : ∀ (es : List D) (e1 : Option D), (∀ e ∈ es, Mem1 e) → (es.all effB = true → ∀ e1, E.nx [V, e1, e2] M) → (es.all effB = false → E.rt (.bl false) M) → forTurns (tgT (.var 1)) (wpSs (callW pg k) eb) anyM E es [V, e1, e2] M
  | [], e1, _, h1, _ => ⟨trivial, h1 rfl _⟩
  | e :: es, e1, hm, h1, h0 => by
    refine for_cons trivial fun N hN => ?_
    show wpSs (callW pg k) eb _ [V, some e, e2] M
    refine eff_step hk (hm e (by simp)) (fun c => hN _ _ (eff_loop hk es _ (fun x hx => hm x (by simp [hx])) (fun c' => h1 (by simp [c, c'])) fun c' => h0 (by rw [List.all_cons, c, c']; rfl))) fun c => h0 (by simp [c])
def e0 : S := match f_are_effects.body with
    | s :: _ => s
    | _ => .pass
def er : List S := f_are_effects.body.drop 1
def er2 : List S := er.drop 1
theorem effects_any {d : D} (hj : 6 ≤ j) (hp : plainD d = true) (hm : ∀ es, d = .tup es → ∀ e ∈ es, Mem1 e) (hQ : Q (.bl (effsB d)) M) : (callW pg j).run 11 [d] M Qx Q := by
  obtain ⟨k, rfl⟩ : ∃ k, j = k + 1 := ⟨j - 1, by omega⟩
  rw [callW_run (f := f_are_effects) rfl]
  refine ⟨rfl, rfl, ?_⟩
  cases d with
  | tup es =>
    show wpSs (callW pg k) (e0 :: er) _ [some (.tup es), none, none] M
    simp [Dw.wpT, wpE, wpA, wpI, wpO, wpSs, Dw.wpS, res, lookD, cmpR, ifD, truthD, backQ, backX, Dw.start, isiR, isTys, isTy, notR, bltR, lenOf, seqOf, okEq, okIn, plainD, plainDs, deepD, deepDs, eq_ss, eq_tt, eq_ll, eqDs, idxR, setDs, Dw.inR, slcV, newL, sameC, mthR, rcvOk, lstAt, resM, tgT, tgTs, Dw.augR, Dw.intD, updM_same, seqI, resI, binR, negR, anyM, flat_tup, flat_str, flat_int, flat_lst, flat_bl, flat_non, e0, f_are_effects]
    refine ⟨trivial, trivial, ?_⟩
    refine eff_loop (k := k) (by omega) es _ (hm es rfl) (fun c e1 => ?_) fun c => ?_
    · show wpSs (callW pg k) er2 _ [some (.tup es), e1, none] M
      simp [Dw.wpT, wpE, wpA, wpI, wpO, wpSs, Dw.wpS, res, lookD, cmpR, ifD, truthD, backQ, backX, Dw.start, isiR, isTys, isTy, notR, bltR, lenOf, seqOf, okEq, okIn, plainD, plainDs, deepD, deepDs, eq_ss, eq_tt, eq_ll, eqDs, idxR, setDs, Dw.inR, slcV, newL, sameC, mthR, rcvOk, lstAt, resM, tgT, tgTs, Dw.augR, Dw.intD, updM_same, seqI, resI, binR, negR, anyM, flat_tup, flat_str, flat_int, flat_lst, flat_bl, flat_non, er2, er, f_are_effects, cut_one, zipI]
      refine lc_mem (M := M) (f := lt1F) ?_ _ _ (fun o ho R hR => ?_) ?_
      · trivial
      · obtain ⟨a, ha, b, hb, rfl⟩ := zip_mem _ _ o ho
        obtain ⟨x, r, rfl, _⟩ := eff_name (List.all_eq_true.mp c a ha)
        obtain ⟨y, u, rfl, _⟩ := eff_name (List.all_eq_true.mp c b (List.mem_of_mem_tail hb))
        simp [Dw.wpT, wpE, wpA, wpI, wpO, wpSs, Dw.wpS, res, lookD, cmpR, ifD, truthD, backQ, backX, Dw.start, isiR, isTys, isTy, notR, bltR, lenOf, seqOf, okEq, okIn, plainD, plainDs, deepD, deepDs, eq_ss, eq_tt, eq_ll, eqDs, idxR, setDs, Dw.inR, slcV, newL, sameC, mthR, rcvOk, lstAt, resM, tgT, tgTs, Dw.augR, Dw.intD, updM_same, seqI, resI, binR, negR, anyM, flat_tup, flat_str, flat_int, flat_lst, flat_bl, flat_non, wipeD, ixD]
        exact hR
      · rw [List.nil_append]
        simp [Dw.wpT, wpE, wpA, wpI, wpO, wpSs, Dw.wpS, res, lookD, cmpR, ifD, truthD, backQ, backX, Dw.start, isiR, isTys, isTy, notR, bltR, lenOf, seqOf, okEq, okIn, plainD, plainDs, deepD, deepDs, eq_ss, eq_tt, eq_ll, eqDs, idxR, setDs, Dw.inR, slcV, newL, sameC, mthR, rcvOk, lstAt, resM, tgT, tgTs, Dw.augR, Dw.intD, updM_same, seqI, resI, binR, negR, anyM, flat_tup, flat_str, flat_int, flat_lst, flat_bl, flat_non, bls_lt1, zip_tail1]
        simpa [effsB, c] using hQ
    · try simp [Dw.wpT, wpE, wpA, wpI, wpO, wpSs, Dw.wpS, res, lookD, cmpR, ifD, truthD, backQ, backX, Dw.start, isiR, isTys, isTy, notR, bltR, lenOf, seqOf, okEq, okIn, plainD, plainDs, deepD, deepDs, eq_ss, eq_tt, eq_ll, eqDs, idxR, setDs, Dw.inR, slcV, newL, sameC, mthR, rcvOk, lstAt, resM, tgT, tgTs, Dw.augR, Dw.intD, updM_same, seqI, resI, binR, negR, anyM, flat_tup, flat_str, flat_int, flat_lst, flat_bl, flat_non]
      simpa [effsB, c] using hQ
  | _ =>
    first
    | (cases hp; done)
    | (simp [Dw.wpT, wpE, wpA, wpI, wpO, wpSs, Dw.wpS, res, lookD, cmpR, ifD, truthD, backQ, backX, Dw.start, isiR, isTys, isTy, notR, bltR, lenOf, seqOf, okEq, okIn, plainD, plainDs, deepD, deepDs, eq_ss, eq_tt, eq_ll, eqDs, idxR, setDs, Dw.inR, slcV, newL, sameC, mthR, rcvOk, lstAt, resM, tgT, tgTs, Dw.augR, Dw.intD, updM_same, seqI, resI, binR, negR, anyM, flat_tup, flat_str, flat_int, flat_lst, flat_bl, flat_non, f_are_effects]; exact hQ)
/-! ### names -/
theorem names_any {d : D} (hj : 3 ≤ j) (hp : plainD d = true) (hQ : Q (.bl (namesB d)) M) : (callW pg j).run 2 [d] M Qx Q := by
  obtain ⟨k, rfl⟩ : ∃ k, j = k + 1 := ⟨j - 1, by omega⟩
  rw [callW_run (f := f_are_names) rfl]
  refine ⟨rfl, rfl, ?_⟩
  cases d with
  | tup es =>
    simp [Dw.wpT, wpE, wpA, wpI, wpO, wpSs, Dw.wpS, res, lookD, cmpR, ifD, truthD, backQ, backX, Dw.start, isiR, isTys, isTy, notR, bltR, lenOf, seqOf, okEq, okIn, plainD, plainDs, deepD, deepDs, eq_ss, eq_tt, eq_ll, eqDs, idxR, setDs, Dw.inR, slcV, newL, sameC, mthR, rcvOk, lstAt, resM, tgT, tgTs, Dw.augR, Dw.intD, updM_same, seqI, resI, binR, negR, anyM, flat_tup, flat_str, flat_int, flat_lst, flat_bl, flat_non, f_are_names, cut_one, zipI]
    refine lc_mem (M := M) (f := fun d => .bl (nameD d)) ?_ _ _ (fun o ho R hR => ?_) ?_
    · trivial
    · simp [Dw.wpT, wpE, wpA, wpI, wpO, wpSs, Dw.wpS, res, lookD, cmpR, ifD, truthD, backQ, backX, Dw.start, isiR, isTys, isTy, notR, bltR, lenOf, seqOf, okEq, okIn, plainD, plainDs, deepD, deepDs, eq_ss, eq_tt, eq_ll, eqDs, idxR, setDs, Dw.inR, slcV, newL, sameC, mthR, rcvOk, lstAt, resM, tgT, tgTs, Dw.augR, Dw.intD, updM_same, seqI, resI, binR, negR, anyM, flat_tup, flat_str, flat_int, flat_lst, flat_bl, flat_non, wipeD]
      exact name_any BB (by omega) (plain_mem hp o ho) hR
    · rw [List.nil_append]
      have hb : blsOf (es.map fun d => .bl (nameD d)) = some (es.map nameD) := by
        clear hp hQ
        induction es with
        | nil => rfl
        | cons x xs ih => show (blsOf _).map _ = _; rw [ih]; rfl
      simp [Dw.wpT, wpE, wpA, wpI, wpO, wpSs, Dw.wpS, res, lookD, cmpR, ifD, truthD, backQ, backX, Dw.start, isiR, isTys, isTy, notR, bltR, lenOf, seqOf, okEq, okIn, plainD, plainDs, deepD, deepDs, eq_ss, eq_tt, eq_ll, eqDs, idxR, setDs, Dw.inR, slcV, newL, sameC, mthR, rcvOk, lstAt, resM, tgT, tgTs, Dw.augR, Dw.intD, updM_same, seqI, resI, binR, negR, anyM, flat_tup, flat_str, flat_int, flat_lst, flat_bl, flat_non, hb]
      cases c : es.all nameD with
      | false =>
        try simp [Dw.wpT, wpE, wpA, wpI, wpO, wpSs, Dw.wpS, res, lookD, cmpR, ifD, truthD, backQ, backX, Dw.start, isiR, isTys, isTy, notR, bltR, lenOf, seqOf, okEq, okIn, plainD, plainDs, deepD, deepDs, eq_ss, eq_tt, eq_ll, eqDs, idxR, setDs, Dw.inR, slcV, newL, sameC, mthR, rcvOk, lstAt, resM, tgT, tgTs, Dw.augR, Dw.intD, updM_same, seqI, resI, binR, negR, anyM, flat_tup, flat_str, flat_int, flat_lst, flat_bl, flat_non]
        simpa [namesB, c] using hQ
      | true =>
        simp [Dw.wpT, wpE, wpA, wpI, wpO, wpSs, Dw.wpS, res, lookD, cmpR, ifD, truthD, backQ, backX, Dw.start, isiR, isTys, isTy, notR, bltR, lenOf, seqOf, okEq, okIn, plainD, plainDs, deepD, deepDs, eq_ss, eq_tt, eq_ll, eqDs, idxR, setDs, Dw.inR, slcV, newL, sameC, mthR, rcvOk, lstAt, resM, tgT, tgTs, Dw.augR, Dw.intD, updM_same, seqI, resI, binR, negR, anyM, flat_tup, flat_str, flat_int, flat_lst, flat_bl, flat_non, zipI, cut_one]
        refine lc_mem (M := M) (f := ltF) ?_ _ _ (fun o ho R hR => ?_) ?_
        · trivial
        · obtain ⟨a, ha, b, hb, rfl⟩ := zip_mem _ _ o ho
          obtain ⟨x, rfl, _⟩ := name_str (List.all_eq_true.mp c a ha)
          obtain ⟨y, rfl, _⟩ := name_str (List.all_eq_true.mp c b (List.mem_of_mem_tail hb))
          simp [Dw.wpT, wpE, wpA, wpI, wpO, wpSs, Dw.wpS, res, lookD, cmpR, ifD, truthD, backQ, backX, Dw.start, isiR, isTys, isTy, notR, bltR, lenOf, seqOf, okEq, okIn, plainD, plainDs, deepD, deepDs, eq_ss, eq_tt, eq_ll, eqDs, idxR, setDs, Dw.inR, slcV, newL, sameC, mthR, rcvOk, lstAt, resM, tgT, tgTs, Dw.augR, Dw.intD, updM_same, seqI, resI, binR, negR, anyM, flat_tup, flat_str, flat_int, flat_lst, flat_bl, flat_non, wipeD, ixD]
          exact hR
        · rw [List.nil_append]
          simp [Dw.wpT, wpE, wpA, wpI, wpO, wpSs, Dw.wpS, res, lookD, cmpR, ifD, truthD, backQ, backX, Dw.start, isiR, isTys, isTy, notR, bltR, lenOf, seqOf, okEq, okIn, plainD, plainDs, deepD, deepDs, eq_ss, eq_tt, eq_ll, eqDs, idxR, setDs, Dw.inR, slcV, newL, sameC, mthR, rcvOk, lstAt, resM, tgT, tgTs, Dw.augR, Dw.intD, updM_same, seqI, resI, binR, negR, anyM, flat_tup, flat_str, flat_int, flat_lst, flat_bl, flat_non, bls_lt, zip_tail]
          simpa [namesB, c] using hQ
  | _ =>
    first
    | (cases hp; done)
    | (simp [Dw.wpT, wpE, wpA, wpI, wpO, wpSs, Dw.wpS, res, lookD, cmpR, ifD, truthD, backQ, backX, Dw.start, isiR, isTys, isTy, notR, bltR, lenOf, seqOf, okEq, okIn, plainD, plainDs, deepD, deepDs, eq_ss, eq_tt, eq_ll, eqDs, idxR, setDs, Dw.inR, slcV, newL, sameC, mthR, rcvOk, lstAt, resM, tgT, tgTs, Dw.augR, Dw.intD, updM_same, seqI, resI, binR, negR, anyM, flat_tup, flat_str, flat_int, flat_lst, flat_bl, flat_non, f_are_names]; exact hQ)
/-! ### values -/
def f0 : S := match f_is_face.body with
    | s :: _ => s
    | _ => .pass
def fr : List S := f_is_face.body.drop 1
def f1 : S := match fr with
    | s :: _ => s
    | _ => .pass
def fr1 : List S := fr.drop 1
def fr2 : List S := fr1.drop 1
def vb : List S := match fr1 with
    | .for_ _ _ b :: _ => b
    | _ => []
theorem val_step {k : Nat} (hk : 6 ≤ k) {N : DS → DM → Prop} {E : DEnds} {V e2 : Option D} {e : D} (m : Mem1 e) (h1 : valB e = true → N [V, some e, e2] M) (h0 : valB e = false → E.rt (.bl false) M) : wpSs (callW pg k) vb { E with nx := N, ct := N, bk := E.nx } [V, some e, e2] M := by
  obtain ⟨mp, mn, ms⟩ := id m
  cases e with
  | tup ds =>
    match ds, m, h1, h0 with
    | [], m, h1, h0 =>
      simp [Dw.wpT, wpE, wpA, wpI, wpO, wpSs, Dw.wpS, res, lookD, cmpR, ifD, truthD, backQ, backX, Dw.start, isiR, isTys, isTy, notR, bltR, lenOf, seqOf, okEq, okIn, plainD, plainDs, deepD, deepDs, eq_ss, eq_tt, eq_ll, eqDs, idxR, setDs, Dw.inR, slcV, newL, sameC, mthR, rcvOk, lstAt, resM, tgT, tgTs, Dw.augR, Dw.intD, updM_same, seqI, resI, binR, negR, anyM, flat_tup, flat_str, flat_int, flat_lst, flat_bl, flat_non, vb, fr1, fr, f_is_face]
      exact h0 rfl
    | [x], m, h1, h0 =>
      simp [Dw.wpT, wpE, wpA, wpI, wpO, wpSs, Dw.wpS, res, lookD, cmpR, ifD, truthD, backQ, backX, Dw.start, isiR, isTys, isTy, notR, bltR, lenOf, seqOf, okEq, okIn, plainD, plainDs, deepD, deepDs, eq_ss, eq_tt, eq_ll, eqDs, idxR, setDs, Dw.inR, slcV, newL, sameC, mthR, rcvOk, lstAt, resM, tgT, tgTs, Dw.augR, Dw.intD, updM_same, seqI, resI, binR, negR, anyM, flat_tup, flat_str, flat_int, flat_lst, flat_bl, flat_non, vb, fr1, fr, f_is_face]
      exact h0 rfl
    | x :: y :: z :: r, m, h1, h0 =>
      simp [Dw.wpT, wpE, wpA, wpI, wpO, wpSs, Dw.wpS, res, lookD, cmpR, ifD, truthD, backQ, backX, Dw.start, isiR, isTys, isTy, notR, bltR, lenOf, seqOf, okEq, okIn, plainD, plainDs, deepD, deepDs, eq_ss, eq_tt, eq_ll, eqDs, idxR, setDs, Dw.inR, slcV, newL, sameC, mthR, rcvOk, lstAt, resM, tgT, tgTs, Dw.augR, Dw.intD, updM_same, seqI, resI, binR, negR, anyM, flat_tup, flat_str, flat_int, flat_lst, flat_bl, flat_non, vb, fr1, fr, f_is_face, len_e2]
      exact h0 rfl
    | [n, a], m, h1, h0 =>
      have mn := mem_tup m n (by simp)
      have ma := mem_tup m a (by simp)
      simp [Dw.wpT, wpE, wpA, wpI, wpO, wpSs, Dw.wpS, res, lookD, cmpR, ifD, truthD, backQ, backX, Dw.start, isiR, isTys, isTy, notR, bltR, lenOf, seqOf, okEq, okIn, plainD, plainDs, deepD, deepDs, eq_ss, eq_tt, eq_ll, eqDs, idxR, setDs, Dw.inR, slcV, newL, sameC, mthR, rcvOk, lstAt, resM, tgT, tgTs, Dw.augR, Dw.intD, updM_same, seqI, resI, binR, negR, anyM, flat_tup, flat_str, flat_int, flat_lst, flat_bl, flat_non, vb, fr1, fr, f_is_face, ixD]
      refine name_any BB (by omega) mn.1 ?_
      cases c1 : nameD n with
      | false =>
        try simp [Dw.wpT, wpE, wpA, wpI, wpO, wpSs, Dw.wpS, res, lookD, cmpR, ifD, truthD, backQ, backX, Dw.start, isiR, isTys, isTy, notR, bltR, lenOf, seqOf, okEq, okIn, plainD, plainDs, deepD, deepDs, eq_ss, eq_tt, eq_ll, eqDs, idxR, setDs, Dw.inR, slcV, newL, sameC, mthR, rcvOk, lstAt, resM, tgT, tgTs, Dw.augR, Dw.intD, updM_same, seqI, resI, binR, negR, anyM, flat_tup, flat_str, flat_int, flat_lst, flat_bl, flat_non]
        exact h0 (by simp [valB, c1])
      | true =>
        try simp [Dw.wpT, wpE, wpA, wpI, wpO, wpSs, Dw.wpS, res, lookD, cmpR, ifD, truthD, backQ, backX, Dw.start, isiR, isTys, isTy, notR, bltR, lenOf, seqOf, okEq, okIn, plainD, plainDs, deepD, deepDs, eq_ss, eq_tt, eq_ll, eqDs, idxR, setDs, Dw.inR, slcV, newL, sameC, mthR, rcvOk, lstAt, resM, tgT, tgTs, Dw.augR, Dw.intD, updM_same, seqI, resI, binR, negR, anyM, flat_tup, flat_str, flat_int, flat_lst, flat_bl, flat_non]
        refine scheme_any B (by omega) ma.1 ma.2.1 ma.2.2 ?_
        cases c2 : schemeD a with
        | false =>
          try simp [Dw.wpT, wpE, wpA, wpI, wpO, wpSs, Dw.wpS, res, lookD, cmpR, ifD, truthD, backQ, backX, Dw.start, isiR, isTys, isTy, notR, bltR, lenOf, seqOf, okEq, okIn, plainD, plainDs, deepD, deepDs, eq_ss, eq_tt, eq_ll, eqDs, idxR, setDs, Dw.inR, slcV, newL, sameC, mthR, rcvOk, lstAt, resM, tgT, tgTs, Dw.augR, Dw.intD, updM_same, seqI, resI, binR, negR, anyM, flat_tup, flat_str, flat_int, flat_lst, flat_bl, flat_non]
          exact h0 (by simp [valB, c2])
        | true =>
          try simp [Dw.wpT, wpE, wpA, wpI, wpO, wpSs, Dw.wpS, res, lookD, cmpR, ifD, truthD, backQ, backX, Dw.start, isiR, isTys, isTy, notR, bltR, lenOf, seqOf, okEq, okIn, plainD, plainDs, deepD, deepDs, eq_ss, eq_tt, eq_ll, eqDs, idxR, setDs, Dw.inR, slcV, newL, sameC, mthR, rcvOk, lstAt, resM, tgT, tgTs, Dw.augR, Dw.intD, updM_same, seqI, resI, binR, negR, anyM, flat_tup, flat_str, flat_int, flat_lst, flat_bl, flat_non]
          exact h1 (by simp [valB, c1, c2])
  | _ =>
    first
    | (cases mp; done)
    | (simp [Dw.wpT, wpE, wpA, wpI, wpO, wpSs, Dw.wpS, res, lookD, cmpR, ifD, truthD, backQ, backX, Dw.start, isiR, isTys, isTy, notR, bltR, lenOf, seqOf, okEq, okIn, plainD, plainDs, deepD, deepDs, eq_ss, eq_tt, eq_ll, eqDs, idxR, setDs, Dw.inR, slcV, newL, sameC, mthR, rcvOk, lstAt, resM, tgT, tgTs, Dw.augR, Dw.intD, updM_same, seqI, resI, binR, negR, anyM, flat_tup, flat_str, flat_int, flat_lst, flat_bl, flat_non, vb, fr1, fr, f_is_face]; exact h0 rfl)
theorem val_loop {k : Nat} (hk : 6 ≤ k) {E : DEnds} {V e2 : Option D} : ∀ (es : List D) (e1 : Option D), (∀ e ∈ es, Mem1 e) → (es.all valB = true → ∀ e1, E.nx [V, e1, e2] M) → (es.all valB = false → E.rt (.bl false) M) → forTurns (tgT (.var 1)) (wpSs (callW pg k) vb) anyM E es [V, e1, e2] M
  | [], e1, _, h1, _ => ⟨trivial, h1 rfl _⟩
  | e :: es, e1, hm, h1, h0 => by
    refine for_cons trivial fun N hN => ?_
    show wpSs (callW pg k) vb _ [V, some e, e2] M
    refine val_step hk (hm e (by simp)) (fun c => hN _ _ (val_loop hk es _ (fun x hx => hm x (by simp [hx])) (fun c' => h1 (by simp [c, c'])) fun c' => h0 (by rw [List.all_cons, c, c']; rfl))) fun c => h0 (by simp [c])
/-- what is_face may be asked about here -/
def Wide (d : D) : Prop := plainD d = true ∧ ∀ xs, d = .tup xs → ∀ es, .tup es ∈ xs → es.length < 63 ∧ ∀ e ∈ es, Mem1 e
theorem face_any {d : D} (hj : 7 ≤ j) (hw : Wide d) (hQ : Q (.bl (faceB d)) M) : (callW pg j).run 12 [d] M Qx Q := by
  obtain ⟨hp, hw⟩ := hw
  obtain ⟨k, rfl⟩ : ∃ k, j = k + 1 := ⟨j - 1, by omega⟩
  rw [callW_run (f := f_is_face) rfl]
  refine ⟨rfl, rfl, ?_⟩
  cases d with
  | tup ds =>
    show wpSs (callW pg k) (f0 :: fr) _ [some (.tup ds), none, none] M
    match ds, hp, hw, hQ with
    | [], hp, hw, hQ =>
      simp [Dw.wpT, wpE, wpA, wpI, wpO, wpSs, Dw.wpS, res, lookD, cmpR, ifD, truthD, backQ, backX, Dw.start, isiR, isTys, isTy, notR, bltR, lenOf, seqOf, okEq, okIn, plainD, plainDs, deepD, deepDs, eq_ss, eq_tt, eq_ll, eqDs, idxR, setDs, Dw.inR, slcV, newL, sameC, mthR, rcvOk, lstAt, resM, tgT, tgTs, Dw.augR, Dw.intD, updM_same, seqI, resI, binR, negR, anyM, flat_tup, flat_str, flat_int, flat_lst, flat_bl, flat_non, f0, f_is_face]
      exact hQ
    | [_], hp, hw, hQ =>
      simp [Dw.wpT, wpE, wpA, wpI, wpO, wpSs, Dw.wpS, res, lookD, cmpR, ifD, truthD, backQ, backX, Dw.start, isiR, isTys, isTy, notR, bltR, lenOf, seqOf, okEq, okIn, plainD, plainDs, deepD, deepDs, eq_ss, eq_tt, eq_ll, eqDs, idxR, setDs, Dw.inR, slcV, newL, sameC, mthR, rcvOk, lstAt, resM, tgT, tgTs, Dw.augR, Dw.intD, updM_same, seqI, resI, binR, negR, anyM, flat_tup, flat_str, flat_int, flat_lst, flat_bl, flat_non, f0, f_is_face]
      exact hQ
    | [_, _], hp, hw, hQ =>
      simp [Dw.wpT, wpE, wpA, wpI, wpO, wpSs, Dw.wpS, res, lookD, cmpR, ifD, truthD, backQ, backX, Dw.start, isiR, isTys, isTy, notR, bltR, lenOf, seqOf, okEq, okIn, plainD, plainDs, deepD, deepDs, eq_ss, eq_tt, eq_ll, eqDs, idxR, setDs, Dw.inR, slcV, newL, sameC, mthR, rcvOk, lstAt, resM, tgT, tgTs, Dw.augR, Dw.intD, updM_same, seqI, resI, binR, negR, anyM, flat_tup, flat_str, flat_int, flat_lst, flat_bl, flat_non, f0, f_is_face]
      exact hQ
    | [_, _, _], hp, hw, hQ =>
      simp [Dw.wpT, wpE, wpA, wpI, wpO, wpSs, Dw.wpS, res, lookD, cmpR, ifD, truthD, backQ, backX, Dw.start, isiR, isTys, isTy, notR, bltR, lenOf, seqOf, okEq, okIn, plainD, plainDs, deepD, deepDs, eq_ss, eq_tt, eq_ll, eqDs, idxR, setDs, Dw.inR, slcV, newL, sameC, mthR, rcvOk, lstAt, resM, tgT, tgTs, Dw.augR, Dw.intD, updM_same, seqI, resI, binR, negR, anyM, flat_tup, flat_str, flat_int, flat_lst, flat_bl, flat_non, f0, f_is_face]
      exact hQ
    | _ :: _ :: _ :: _ :: _ :: r, hp, hw, hQ =>
      simp [Dw.wpT, wpE, wpA, wpI, wpO, wpSs, Dw.wpS, res, lookD, cmpR, ifD, truthD, backQ, backX, Dw.start, isiR, isTys, isTy, notR, bltR, lenOf, seqOf, okEq, okIn, plainD, plainDs, deepD, deepDs, eq_ss, eq_tt, eq_ll, eqDs, idxR, setDs, Dw.inR, slcV, newL, sameC, mthR, rcvOk, lstAt, resM, tgT, tgTs, Dw.augR, Dw.intD, updM_same, seqI, resI, binR, negR, anyM, flat_tup, flat_str, flat_int, flat_lst, flat_bl, flat_non, f0, f_is_face, len_e4]
      exact hQ
    | [n, es, os, vs], hp, hw, hQ =>
      simp only [plainD, plainDs, Bool.and_eq_true] at hp
      obtain ⟨p1, p2, p3, p4, _⟩ := hp
      have hw := hw _ rfl
      simp [Dw.wpT, wpE, wpA, wpI, wpO, wpSs, Dw.wpS, res, lookD, cmpR, ifD, truthD, backQ, backX, Dw.start, isiR, isTys, isTy, notR, bltR, lenOf, seqOf, okEq, okIn, plainD, plainDs, deepD, deepDs, eq_ss, eq_tt, eq_ll, eqDs, idxR, setDs, Dw.inR, slcV, newL, sameC, mthR, rcvOk, lstAt, resM, tgT, tgTs, Dw.augR, Dw.intD, updM_same, seqI, resI, binR, negR, anyM, flat_tup, flat_str, flat_int, flat_lst, flat_bl, flat_non, f0, f_is_face, ixD]
      refine name_any BB (by omega) p1 ?_
      cases c1 : nameD n with
      | false =>
        try simp [Dw.wpT, wpE, wpA, wpI, wpO, wpSs, Dw.wpS, res, lookD, cmpR, ifD, truthD, backQ, backX, Dw.start, isiR, isTys, isTy, notR, bltR, lenOf, seqOf, okEq, okIn, plainD, plainDs, deepD, deepDs, eq_ss, eq_tt, eq_ll, eqDs, idxR, setDs, Dw.inR, slcV, newL, sameC, mthR, rcvOk, lstAt, resM, tgT, tgTs, Dw.augR, Dw.intD, updM_same, seqI, resI, binR, negR, anyM, flat_tup, flat_str, flat_int, flat_lst, flat_bl, flat_non]
        simpa [faceB, c1] using hQ
      | true =>
        try simp [Dw.wpT, wpE, wpA, wpI, wpO, wpSs, Dw.wpS, res, lookD, cmpR, ifD, truthD, backQ, backX, Dw.start, isiR, isTys, isTy, notR, bltR, lenOf, seqOf, okEq, okIn, plainD, plainDs, deepD, deepDs, eq_ss, eq_tt, eq_ll, eqDs, idxR, setDs, Dw.inR, slcV, newL, sameC, mthR, rcvOk, lstAt, resM, tgT, tgTs, Dw.augR, Dw.intD, updM_same, seqI, resI, binR, negR, anyM, flat_tup, flat_str, flat_int, flat_lst, flat_bl, flat_non]
        show wpSs (callW pg k) (f1 :: fr1) _ [some (.tup [n, es, os, vs]), none, none] M
        simp [Dw.wpT, wpE, wpA, wpI, wpO, wpSs, Dw.wpS, res, lookD, cmpR, ifD, truthD, backQ, backX, Dw.start, isiR, isTys, isTy, notR, bltR, lenOf, seqOf, okEq, okIn, plainD, plainDs, deepD, deepDs, eq_ss, eq_tt, eq_ll, eqDs, idxR, setDs, Dw.inR, slcV, newL, sameC, mthR, rcvOk, lstAt, resM, tgT, tgTs, Dw.augR, Dw.intD, updM_same, seqI, resI, binR, negR, anyM, flat_tup, flat_str, flat_int, flat_lst, flat_bl, flat_non, f1, fr, f_is_face, ixD]
        refine effects_any (by omega) p2 (fun xs e => (hw xs (by simp [e])).2) ?_
        cases c2 : effsB es with
        | false =>
          try simp [Dw.wpT, wpE, wpA, wpI, wpO, wpSs, Dw.wpS, res, lookD, cmpR, ifD, truthD, backQ, backX, Dw.start, isiR, isTys, isTy, notR, bltR, lenOf, seqOf, okEq, okIn, plainD, plainDs, deepD, deepDs, eq_ss, eq_tt, eq_ll, eqDs, idxR, setDs, Dw.inR, slcV, newL, sameC, mthR, rcvOk, lstAt, resM, tgT, tgTs, Dw.augR, Dw.intD, updM_same, seqI, resI, binR, negR, anyM, flat_tup, flat_str, flat_int, flat_lst, flat_bl, flat_non]
          simpa [faceB, c2] using hQ
        | true =>
          try simp [Dw.wpT, wpE, wpA, wpI, wpO, wpSs, Dw.wpS, res, lookD, cmpR, ifD, truthD, backQ, backX, Dw.start, isiR, isTys, isTy, notR, bltR, lenOf, seqOf, okEq, okIn, plainD, plainDs, deepD, deepDs, eq_ss, eq_tt, eq_ll, eqDs, idxR, setDs, Dw.inR, slcV, newL, sameC, mthR, rcvOk, lstAt, resM, tgT, tgTs, Dw.augR, Dw.intD, updM_same, seqI, resI, binR, negR, anyM, flat_tup, flat_str, flat_int, flat_lst, flat_bl, flat_non]
          refine names_any (by omega) p3 ?_
          cases c3 : namesB os with
          | false =>
            try simp [Dw.wpT, wpE, wpA, wpI, wpO, wpSs, Dw.wpS, res, lookD, cmpR, ifD, truthD, backQ, backX, Dw.start, isiR, isTys, isTy, notR, bltR, lenOf, seqOf, okEq, okIn, plainD, plainDs, deepD, deepDs, eq_ss, eq_tt, eq_ll, eqDs, idxR, setDs, Dw.inR, slcV, newL, sameC, mthR, rcvOk, lstAt, resM, tgT, tgTs, Dw.augR, Dw.intD, updM_same, seqI, resI, binR, negR, anyM, flat_tup, flat_str, flat_int, flat_lst, flat_bl, flat_non]
            simpa [faceB, c3] using hQ
          | true =>
            try simp [Dw.wpT, wpE, wpA, wpI, wpO, wpSs, Dw.wpS, res, lookD, cmpR, ifD, truthD, backQ, backX, Dw.start, isiR, isTys, isTy, notR, bltR, lenOf, seqOf, okEq, okIn, plainD, plainDs, deepD, deepDs, eq_ss, eq_tt, eq_ll, eqDs, idxR, setDs, Dw.inR, slcV, newL, sameC, mthR, rcvOk, lstAt, resM, tgT, tgTs, Dw.augR, Dw.intD, updM_same, seqI, resI, binR, negR, anyM, flat_tup, flat_str, flat_int, flat_lst, flat_bl, flat_non]
            cases vs with
            | tup vs =>
              try simp [Dw.wpT, wpE, wpA, wpI, wpO, wpSs, Dw.wpS, res, lookD, cmpR, ifD, truthD, backQ, backX, Dw.start, isiR, isTys, isTy, notR, bltR, lenOf, seqOf, okEq, okIn, plainD, plainDs, deepD, deepDs, eq_ss, eq_tt, eq_ll, eqDs, idxR, setDs, Dw.inR, slcV, newL, sameC, mthR, rcvOk, lstAt, resM, tgT, tgTs, Dw.augR, Dw.intD, updM_same, seqI, resI, binR, negR, anyM, flat_tup, flat_str, flat_int, flat_lst, flat_bl, flat_non]
              refine ⟨trivial, trivial, trivial, ?_⟩
              refine val_loop (k := k) (by omega) vs _ (hw vs (by simp)).2 (fun c e1 => ?_) fun c => ?_
              · show wpSs (callW pg k) fr2 _ [some (.tup [n, es, os, .tup vs]), e1, none] M
                simp [Dw.wpT, wpE, wpA, wpI, wpO, wpSs, Dw.wpS, res, lookD, cmpR, ifD, truthD, backQ, backX, Dw.start, isiR, isTys, isTy, notR, bltR, lenOf, seqOf, okEq, okIn, plainD, plainDs, deepD, deepDs, eq_ss, eq_tt, eq_ll, eqDs, idxR, setDs, Dw.inR, slcV, newL, sameC, mthR, rcvOk, lstAt, resM, tgT, tgTs, Dw.augR, Dw.intD, updM_same, seqI, resI, binR, negR, anyM, flat_tup, flat_str, flat_int, flat_lst, flat_bl, flat_non, fr2, fr1, fr, f_is_face, cut_one, zipI, ixD]
                refine lc_mem (M := M) (f := lt1F) ?_ _ _ (fun o ho R hR => ?_) ?_
                · trivial
                · obtain ⟨a, ha, b, hb, rfl⟩ := zip_mem _ _ o ho
                  obtain ⟨x, r, rfl, _⟩ := val_name (List.all_eq_true.mp c a ha)
                  obtain ⟨y, u, rfl, _⟩ := val_name (List.all_eq_true.mp c b (List.mem_of_mem_tail hb))
                  simp [Dw.wpT, wpE, wpA, wpI, wpO, wpSs, Dw.wpS, res, lookD, cmpR, ifD, truthD, backQ, backX, Dw.start, isiR, isTys, isTy, notR, bltR, lenOf, seqOf, okEq, okIn, plainD, plainDs, deepD, deepDs, eq_ss, eq_tt, eq_ll, eqDs, idxR, setDs, Dw.inR, slcV, newL, sameC, mthR, rcvOk, lstAt, resM, tgT, tgTs, Dw.augR, Dw.intD, updM_same, seqI, resI, binR, negR, anyM, flat_tup, flat_str, flat_int, flat_lst, flat_bl, flat_non, wipeD, ixD]
                  exact hR
                · rw [List.nil_append]
                  simp [Dw.wpT, wpE, wpA, wpI, wpO, wpSs, Dw.wpS, res, lookD, cmpR, ifD, truthD, backQ, backX, Dw.start, isiR, isTys, isTy, notR, bltR, lenOf, seqOf, okEq, okIn, plainD, plainDs, deepD, deepDs, eq_ss, eq_tt, eq_ll, eqDs, idxR, setDs, Dw.inR, slcV, newL, sameC, mthR, rcvOk, lstAt, resM, tgT, tgTs, Dw.augR, Dw.intD, updM_same, seqI, resI, binR, negR, anyM, flat_tup, flat_str, flat_int, flat_lst, flat_bl, flat_non, bls_lt1, zip_tail1]
                  simpa [faceB, valsB, c, c1, c2, c3] using hQ
              · try simp [Dw.wpT, wpE, wpA, wpI, wpO, wpSs, Dw.wpS, res, lookD, cmpR, ifD, truthD, backQ, backX, Dw.start, isiR, isTys, isTy, notR, bltR, lenOf, seqOf, okEq, okIn, plainD, plainDs, deepD, deepDs, eq_ss, eq_tt, eq_ll, eqDs, idxR, setDs, Dw.inR, slcV, newL, sameC, mthR, rcvOk, lstAt, resM, tgT, tgTs, Dw.augR, Dw.intD, updM_same, seqI, resI, binR, negR, anyM, flat_tup, flat_str, flat_int, flat_lst, flat_bl, flat_non]
                simpa [faceB, valsB, c] using hQ
            | _ =>
              first
              | (cases p4; done)
              | (try simp [Dw.wpT, wpE, wpA, wpI, wpO, wpSs, Dw.wpS, res, lookD, cmpR, ifD, truthD, backQ, backX, Dw.start, isiR, isTys, isTy, notR, bltR, lenOf, seqOf, okEq, okIn, plainD, plainDs, deepD, deepDs, eq_ss, eq_tt, eq_ll, eqDs, idxR, setDs, Dw.inR, slcV, newL, sameC, mthR, rcvOk, lstAt, resM, tgT, tgTs, Dw.augR, Dw.intD, updM_same, seqI, resI, binR, negR, anyM, flat_tup, flat_str, flat_int, flat_lst, flat_bl, flat_non]; simpa [faceB, valsB] using hQ)
  | _ =>
    first
    | (cases hp; done)
    | (simp [Dw.wpT, wpE, wpA, wpI, wpO, wpSs, Dw.wpS, res, lookD, cmpR, ifD, truthD, backQ, backX, Dw.start, isiR, isTys, isTy, notR, bltR, lenOf, seqOf, okEq, okIn, plainD, plainDs, deepD, deepDs, eq_ss, eq_tt, eq_ll, eqDs, idxR, setDs, Dw.inR, slcV, newL, sameC, mthR, rcvOk, lstAt, resM, tgT, tgTs, Dw.augR, Dw.intD, updM_same, seqI, resI, binR, negR, anyM, flat_tup, flat_str, flat_int, flat_lst, flat_bl, flat_non, f_is_face]; exact hQ)
end K04
set_option Elab.async false
set_option linter.all false
set_option maxRecDepth 100000
set_option maxHeartbeats 4000000
/-! K04Q: faces: what the law judges. -/
namespace K04
open PySem PySem.Spec PyProof.Rows L2 Dw LL
variable {j : Nat} {M : DM} {Qx : QX} {Q : QD}
def noT (d : D) : Bool := !isTupD d
noncomputable def noC (d : D) : Bool := !closedD d
def noN (d : D) : Bool := !nameD d
theorem filter_no {p q : D → Bool} (hq : ∀ d, q d = !p d) (ls : List D) : eqDs (ls.filter q) [] = ls.all p := by
  induction ls with
  | nil => rfl
  | cons l ls ih =>
    cases h : p l with
    | true => simpa [hq, h] using ih
    | false => simp [hq, h, eqDs]
theorem plain_filt {p : D → Bool} {ds : List D} (h : plainDs ds = true) : plainDs (ds.filter p) = true :=
  plain_all fun u hu => plain_mem (us := ds) h u (List.mem_filter.mp hu).1
theorem deep_le {ds es : List D} (h : ∀ d ∈ es, d ∈ ds) : deepDs es ≤ deepDs ds := by
  induction es with
  | nil => simp [deepDs]
  | cons e es ih =>
    have h1 := deep_mem (us := ds) (h e (by simp))
    have h2 := ih fun d hd => h d (by simp [hd])
    simp only [deepDs]
    omega
theorem plain_texts {ls : List D} (h : ∀ l ∈ ls, TextD l) : plainDs ls = true ∧ deepDs ls = 0 := by
  refine ⟨plain_all fun u hu => by obtain ⟨x, rfl⟩ := h u hu; rfl, ?_⟩
  induction ls with
  | nil => rfl
  | cons l ls ih =>
    obtain ⟨x, rfl⟩ := h l (by simp)
    have := ih fun d hd => h d (by simp [hd])
    simp only [deepDs, deepD, this]
    rfl
/-! ### the tails -/
def g0 : S := match f__law_is_face.body with
    | s :: _ => s
    | _ => .pass
def gr : List S := f__law_is_face.body.drop 1
def gr1 : List S := gr.drop 1
def gr2 : List S := gr1.drop 1
def g3 : S := match gr2 with
    | s :: _ => s
    | _ => .pass
def gr3 : List S := gr2.drop 1
def gr4 : List S := gr3.drop 1
def geb : List S := match gr with
    | .for_ _ _ b :: _ => b
    | _ => []
def gvb : List S := match gr1 with
    | .for_ _ _ b :: _ => b
    | _ => []
def gnb : List S := match gr3 with
    | .for_ _ _ b :: _ => b
    | _ => []
theorem eff_stepL {k : Nat} (hk : 5 ≤ k) {N : DS → DM → Prop} {E : DEnds} {V e2 e3 : Option D} {e : D} (m : Mem1 e) (h1 : effB e = true → N [V, some e, e2, e3] M) (h0 : effB e = false → E.rt (.bl false) M) : wpSs (callW pg k) geb { E with nx := N, ct := N, bk := E.nx } [V, some e, e2, e3] M := by
  obtain ⟨mp, mn, ms⟩ := id m
  cases e with
  | tup ds =>
    match ds, m, h1, h0 with
    | [], m, h1, h0 =>
      simp [Dw.wpT, wpE, wpA, wpI, wpO, wpSs, Dw.wpS, res, lookD, cmpR, ifD, truthD, backQ, backX, Dw.start, isiR, isTys, isTy, notR, bltR, lenOf, seqOf, okEq, okIn, plainD, plainDs, deepD, deepDs, eq_ss, eq_tt, eq_ll, eqDs, idxR, setDs, Dw.inR, slcV, newL, sameC, mthR, rcvOk, lstAt, resM, tgT, tgTs, Dw.augR, Dw.intD, updM_same, seqI, resI, binR, negR, anyM, flat_tup, flat_str, flat_int, flat_lst, flat_bl, flat_non, geb, gr, f__law_is_face]
      exact h0 rfl
    | [x], m, h1, h0 =>
      simp [Dw.wpT, wpE, wpA, wpI, wpO, wpSs, Dw.wpS, res, lookD, cmpR, ifD, truthD, backQ, backX, Dw.start, isiR, isTys, isTy, notR, bltR, lenOf, seqOf, okEq, okIn, plainD, plainDs, deepD, deepDs, eq_ss, eq_tt, eq_ll, eqDs, idxR, setDs, Dw.inR, slcV, newL, sameC, mthR, rcvOk, lstAt, resM, tgT, tgTs, Dw.augR, Dw.intD, updM_same, seqI, resI, binR, negR, anyM, flat_tup, flat_str, flat_int, flat_lst, flat_bl, flat_non, geb, gr, f__law_is_face]
      exact h0 rfl
    | [x, y], m, h1, h0 =>
      simp [Dw.wpT, wpE, wpA, wpI, wpO, wpSs, Dw.wpS, res, lookD, cmpR, ifD, truthD, backQ, backX, Dw.start, isiR, isTys, isTy, notR, bltR, lenOf, seqOf, okEq, okIn, plainD, plainDs, deepD, deepDs, eq_ss, eq_tt, eq_ll, eqDs, idxR, setDs, Dw.inR, slcV, newL, sameC, mthR, rcvOk, lstAt, resM, tgT, tgTs, Dw.augR, Dw.intD, updM_same, seqI, resI, binR, negR, anyM, flat_tup, flat_str, flat_int, flat_lst, flat_bl, flat_non, geb, gr, f__law_is_face]
      exact h0 rfl
    | x :: y :: z :: u :: r, m, h1, h0 =>
      simp [Dw.wpT, wpE, wpA, wpI, wpO, wpSs, Dw.wpS, res, lookD, cmpR, ifD, truthD, backQ, backX, Dw.start, isiR, isTys, isTy, notR, bltR, lenOf, seqOf, okEq, okIn, plainD, plainDs, deepD, deepDs, eq_ss, eq_tt, eq_ll, eqDs, idxR, setDs, Dw.inR, slcV, newL, sameC, mthR, rcvOk, lstAt, resM, tgT, tgTs, Dw.augR, Dw.intD, updM_same, seqI, resI, binR, negR, anyM, flat_tup, flat_str, flat_int, flat_lst, flat_bl, flat_non, geb, gr, f__law_is_face, len_e3]
      exact h0 rfl
    | [n, a, b], m, h1, h0 =>
      have mn := mem_tup m n (by simp)
      have ma := mem_tup m a (by simp)
      have mb := mem_tup m b (by simp)
      simp [Dw.wpT, wpE, wpA, wpI, wpO, wpSs, Dw.wpS, res, lookD, cmpR, ifD, truthD, backQ, backX, Dw.start, isiR, isTys, isTy, notR, bltR, lenOf, seqOf, okEq, okIn, plainD, plainDs, deepD, deepDs, eq_ss, eq_tt, eq_ll, eqDs, idxR, setDs, Dw.inR, slcV, newL, sameC, mthR, rcvOk, lstAt, resM, tgT, tgTs, Dw.augR, Dw.intD, updM_same, seqI, resI, binR, negR, anyM, flat_tup, flat_str, flat_int, flat_lst, flat_bl, flat_non, geb, gr, f__law_is_face, ixD]
      refine namel_any BB (by omega) mn.1 ?_
      cases c1 : nameD n with
      | false =>
        try simp [Dw.wpT, wpE, wpA, wpI, wpO, wpSs, Dw.wpS, res, lookD, cmpR, ifD, truthD, backQ, backX, Dw.start, isiR, isTys, isTy, notR, bltR, lenOf, seqOf, okEq, okIn, plainD, plainDs, deepD, deepDs, eq_ss, eq_tt, eq_ll, eqDs, idxR, setDs, Dw.inR, slcV, newL, sameC, mthR, rcvOk, lstAt, resM, tgT, tgTs, Dw.augR, Dw.intD, updM_same, seqI, resI, binR, negR, anyM, flat_tup, flat_str, flat_int, flat_lst, flat_bl, flat_non]
        exact h0 (by simp [effB, c1])
      | true =>
        simp [Dw.wpT, wpE, wpA, wpI, wpO, wpSs, Dw.wpS, res, lookD, cmpR, ifD, truthD, backQ, backX, Dw.start, isiR, isTys, isTy, notR, bltR, lenOf, seqOf, okEq, okIn, plainD, plainDs, deepD, deepDs, eq_ss, eq_tt, eq_ll, eqDs, idxR, setDs, Dw.inR, slcV, newL, sameC, mthR, rcvOk, lstAt, resM, tgT, tgTs, Dw.augR, Dw.intD, updM_same, seqI, resI, binR, negR, anyM, flat_tup, flat_str, flat_int, flat_lst, flat_bl, flat_non, cut_one]
        refine lc_keep (p := noC) ?_ _ _ (fun t ht R N' h => ?_) ?_
        · trivial
        · have mt : Mem1 t := by
            simp only [List.mem_cons, List.not_mem_nil, or_false] at ht
            rcases ht with rfl | rfl
            · exact ma
            · exact mb
          simp [Dw.wpT, wpE, wpA, wpI, wpO, wpSs, Dw.wpS, res, lookD, cmpR, ifD, truthD, backQ, backX, Dw.start, isiR, isTys, isTy, notR, bltR, lenOf, seqOf, okEq, okIn, plainD, plainDs, deepD, deepDs, eq_ss, eq_tt, eq_ll, eqDs, idxR, setDs, Dw.inR, slcV, newL, sameC, mthR, rcvOk, lstAt, resM, tgT, tgTs, Dw.augR, Dw.intD, updM_same, seqI, resI, binR, negR, anyM, flat_tup, flat_str, flat_int, flat_lst, flat_bl, flat_non, wipeD, Dw.wpC]
          refine type_any BB (by omega) mt.1 mt.2.2 ?_
          cases c2 : typeB t with
          | false =>
            have c : closedD t = false := by simp [closedD, c2]
            simp [noC, c] at h
            try simp [Dw.wpT, wpE, wpA, wpI, wpO, wpSs, Dw.wpS, res, lookD, cmpR, ifD, truthD, backQ, backX, Dw.start, isiR, isTys, isTy, notR, bltR, lenOf, seqOf, okEq, okIn, plainD, plainDs, deepD, deepDs, eq_ss, eq_tt, eq_ll, eqDs, idxR, setDs, Dw.inR, slcV, newL, sameC, mthR, rcvOk, lstAt, resM, tgT, tgTs, Dw.augR, Dw.intD, updM_same, seqI, resI, binR, negR, anyM, flat_tup, flat_str, flat_int, flat_lst, flat_bl, flat_non]
            exact h
          | true =>
            try simp [Dw.wpT, wpE, wpA, wpI, wpO, wpSs, Dw.wpS, res, lookD, cmpR, ifD, truthD, backQ, backX, Dw.start, isiR, isTys, isTy, notR, bltR, lenOf, seqOf, okEq, okIn, plainD, plainDs, deepD, deepDs, eq_ss, eq_tt, eq_ll, eqDs, idxR, setDs, Dw.inR, slcV, newL, sameC, mthR, rcvOk, lstAt, resM, tgT, tgTs, Dw.augR, Dw.intD, updM_same, seqI, resI, binR, negR, anyM, flat_tup, flat_str, flat_int, flat_lst, flat_bl, flat_non]
            refine closed_any (by omega) mt.2.1 c2 ?_
            cases c : closedD t <;> simp [noC, c] at h <;> try simp [Dw.wpT, wpE, wpA, wpI, wpO, wpSs, Dw.wpS, res, lookD, cmpR, ifD, truthD, backQ, backX, Dw.start, isiR, isTys, isTy, notR, bltR, lenOf, seqOf, okEq, okIn, plainD, plainDs, deepD, deepDs, eq_ss, eq_tt, eq_ll, eqDs, idxR, setDs, Dw.inR, slcV, newL, sameC, mthR, rcvOk, lstAt, resM, tgT, tgTs, Dw.augR, Dw.intD, updM_same, seqI, resI, binR, negR, anyM, flat_tup, flat_str, flat_int, flat_lst, flat_bl, flat_non] <;> exact h
        · rw [List.nil_append]
          have e := filter_no (p := closedD) (q := noC) (fun _ => rfl) [a, b]
          have hp : plainDs ([a, b].filter noC) = true := plain_filt (by simp [plainDs, ma.1, mb.1])
          simp [Dw.wpT, wpE, wpA, wpI, wpO, wpSs, Dw.wpS, res, lookD, cmpR, ifD, truthD, backQ, backX, Dw.start, isiR, isTys, isTy, notR, bltR, lenOf, seqOf, okEq, okIn, plainD, plainDs, deepD, deepDs, eq_ss, eq_tt, eq_ll, eqDs, idxR, setDs, Dw.inR, slcV, newL, sameC, mthR, rcvOk, lstAt, resM, tgT, tgTs, Dw.augR, Dw.intD, updM_same, seqI, resI, binR, negR, anyM, flat_tup, flat_str, flat_int, flat_lst, flat_bl, flat_non, e, hp]
          cases c2 : closedD a
          · try simp [Dw.wpT, wpE, wpA, wpI, wpO, wpSs, Dw.wpS, res, lookD, cmpR, ifD, truthD, backQ, backX, Dw.start, isiR, isTys, isTy, notR, bltR, lenOf, seqOf, okEq, okIn, plainD, plainDs, deepD, deepDs, eq_ss, eq_tt, eq_ll, eqDs, idxR, setDs, Dw.inR, slcV, newL, sameC, mthR, rcvOk, lstAt, resM, tgT, tgTs, Dw.augR, Dw.intD, updM_same, seqI, resI, binR, negR, anyM, flat_tup, flat_str, flat_int, flat_lst, flat_bl, flat_non]
            exact h0 (by simp [effB, c2])
          · cases c3 : closedD b
            · try simp [Dw.wpT, wpE, wpA, wpI, wpO, wpSs, Dw.wpS, res, lookD, cmpR, ifD, truthD, backQ, backX, Dw.start, isiR, isTys, isTy, notR, bltR, lenOf, seqOf, okEq, okIn, plainD, plainDs, deepD, deepDs, eq_ss, eq_tt, eq_ll, eqDs, idxR, setDs, Dw.inR, slcV, newL, sameC, mthR, rcvOk, lstAt, resM, tgT, tgTs, Dw.augR, Dw.intD, updM_same, seqI, resI, binR, negR, anyM, flat_tup, flat_str, flat_int, flat_lst, flat_bl, flat_non]
              exact h0 (by simp [effB, c3])
            · try simp [Dw.wpT, wpE, wpA, wpI, wpO, wpSs, Dw.wpS, res, lookD, cmpR, ifD, truthD, backQ, backX, Dw.start, isiR, isTys, isTy, notR, bltR, lenOf, seqOf, okEq, okIn, plainD, plainDs, deepD, deepDs, eq_ss, eq_tt, eq_ll, eqDs, idxR, setDs, Dw.inR, slcV, newL, sameC, mthR, rcvOk, lstAt, resM, tgT, tgTs, Dw.augR, Dw.intD, updM_same, seqI, resI, binR, negR, anyM, flat_tup, flat_str, flat_int, flat_lst, flat_bl, flat_non]
              exact h1 (by simp [effB, c1, c2, c3])
  | _ =>
    first
    | (cases mp; done)
    | (simp [Dw.wpT, wpE, wpA, wpI, wpO, wpSs, Dw.wpS, res, lookD, cmpR, ifD, truthD, backQ, backX, Dw.start, isiR, isTys, isTy, notR, bltR, lenOf, seqOf, okEq, okIn, plainD, plainDs, deepD, deepDs, eq_ss, eq_tt, eq_ll, eqDs, idxR, setDs, Dw.inR, slcV, newL, sameC, mthR, rcvOk, lstAt, resM, tgT, tgTs, Dw.augR, Dw.intD, updM_same, seqI, resI, binR, negR, anyM, flat_tup, flat_str, flat_int, flat_lst, flat_bl, flat_non, geb, gr, f__law_is_face]; exact h0 rfl)
theorem eff_loopL {k : Nat} (hk : 5 ≤ k) {E : DEnds} {V e2 e3 : Option D} : ∀ (es : List D) (e1 : Option D), (∀ e ∈ es, Mem1 e) → (es.all effB = true → ∀ e1, E.nx [V, e1, e2, e3] M) → (es.all effB = false → E.rt (.bl false) M) → forTurns (tgT (.var 1)) (wpSs (callW pg k) geb) anyM E es [V, e1, e2, e3] M
  | [], e1, _, h1, _ => ⟨trivial, h1 rfl _⟩
  | e :: es, e1, hm, h1, h0 => by
    refine for_cons trivial fun N hN => ?_
    show wpSs (callW pg k) geb _ [V, some e, e2, e3] M
    refine eff_stepL hk (hm e (by simp)) (fun c => hN _ _ (eff_loopL hk es _ (fun x hx => hm x (by simp [hx])) (fun c' => h1 (by simp [c, c'])) fun c' => h0 (by rw [List.all_cons, c, c']; rfl))) fun c => h0 (by simp [c])
theorem val_stepL {k : Nat} (hk : 6 ≤ k) {N : DS → DM → Prop} {E : DEnds} {V e2 e3 : Option D} {e : D} (m : Mem1 e) (h1 : valB e = true → N [V, some e, e2, e3] M) (h0 : valB e = false → E.rt (.bl false) M) : wpSs (callW pg k) gvb { E with nx := N, ct := N, bk := E.nx } [V, some e, e2, e3] M := by
  obtain ⟨mp, mn, ms⟩ := id m
  cases e with
  | tup ds =>
    match ds, m, h1, h0 with
    | [], m, h1, h0 =>
      simp [Dw.wpT, wpE, wpA, wpI, wpO, wpSs, Dw.wpS, res, lookD, cmpR, ifD, truthD, backQ, backX, Dw.start, isiR, isTys, isTy, notR, bltR, lenOf, seqOf, okEq, okIn, plainD, plainDs, deepD, deepDs, eq_ss, eq_tt, eq_ll, eqDs, idxR, setDs, Dw.inR, slcV, newL, sameC, mthR, rcvOk, lstAt, resM, tgT, tgTs, Dw.augR, Dw.intD, updM_same, seqI, resI, binR, negR, anyM, flat_tup, flat_str, flat_int, flat_lst, flat_bl, flat_non, gvb, gr1, gr, f__law_is_face]
      exact h0 rfl
    | [x], m, h1, h0 =>
      simp [Dw.wpT, wpE, wpA, wpI, wpO, wpSs, Dw.wpS, res, lookD, cmpR, ifD, truthD, backQ, backX, Dw.start, isiR, isTys, isTy, notR, bltR, lenOf, seqOf, okEq, okIn, plainD, plainDs, deepD, deepDs, eq_ss, eq_tt, eq_ll, eqDs, idxR, setDs, Dw.inR, slcV, newL, sameC, mthR, rcvOk, lstAt, resM, tgT, tgTs, Dw.augR, Dw.intD, updM_same, seqI, resI, binR, negR, anyM, flat_tup, flat_str, flat_int, flat_lst, flat_bl, flat_non, gvb, gr1, gr, f__law_is_face]
      exact h0 rfl
    | x :: y :: z :: r, m, h1, h0 =>
      simp [Dw.wpT, wpE, wpA, wpI, wpO, wpSs, Dw.wpS, res, lookD, cmpR, ifD, truthD, backQ, backX, Dw.start, isiR, isTys, isTy, notR, bltR, lenOf, seqOf, okEq, okIn, plainD, plainDs, deepD, deepDs, eq_ss, eq_tt, eq_ll, eqDs, idxR, setDs, Dw.inR, slcV, newL, sameC, mthR, rcvOk, lstAt, resM, tgT, tgTs, Dw.augR, Dw.intD, updM_same, seqI, resI, binR, negR, anyM, flat_tup, flat_str, flat_int, flat_lst, flat_bl, flat_non, gvb, gr1, gr, f__law_is_face, len_e2]
      exact h0 rfl
    | [n, a], m, h1, h0 =>
      have mn := mem_tup m n (by simp)
      have ma := mem_tup m a (by simp)
      simp [Dw.wpT, wpE, wpA, wpI, wpO, wpSs, Dw.wpS, res, lookD, cmpR, ifD, truthD, backQ, backX, Dw.start, isiR, isTys, isTy, notR, bltR, lenOf, seqOf, okEq, okIn, plainD, plainDs, deepD, deepDs, eq_ss, eq_tt, eq_ll, eqDs, idxR, setDs, Dw.inR, slcV, newL, sameC, mthR, rcvOk, lstAt, resM, tgT, tgTs, Dw.augR, Dw.intD, updM_same, seqI, resI, binR, negR, anyM, flat_tup, flat_str, flat_int, flat_lst, flat_bl, flat_non, gvb, gr1, gr, f__law_is_face, ixD]
      refine namel_any BB (by omega) mn.1 ?_
      cases c1 : nameD n with
      | false =>
        try simp [Dw.wpT, wpE, wpA, wpI, wpO, wpSs, Dw.wpS, res, lookD, cmpR, ifD, truthD, backQ, backX, Dw.start, isiR, isTys, isTy, notR, bltR, lenOf, seqOf, okEq, okIn, plainD, plainDs, deepD, deepDs, eq_ss, eq_tt, eq_ll, eqDs, idxR, setDs, Dw.inR, slcV, newL, sameC, mthR, rcvOk, lstAt, resM, tgT, tgTs, Dw.augR, Dw.intD, updM_same, seqI, resI, binR, negR, anyM, flat_tup, flat_str, flat_int, flat_lst, flat_bl, flat_non]
        exact h0 (by simp [valB, c1])
      | true =>
        try simp [Dw.wpT, wpE, wpA, wpI, wpO, wpSs, Dw.wpS, res, lookD, cmpR, ifD, truthD, backQ, backX, Dw.start, isiR, isTys, isTy, notR, bltR, lenOf, seqOf, okEq, okIn, plainD, plainDs, deepD, deepDs, eq_ss, eq_tt, eq_ll, eqDs, idxR, setDs, Dw.inR, slcV, newL, sameC, mthR, rcvOk, lstAt, resM, tgT, tgTs, Dw.augR, Dw.intD, updM_same, seqI, resI, binR, negR, anyM, flat_tup, flat_str, flat_int, flat_lst, flat_bl, flat_non]
        refine scheme_any B (by omega) ma.1 ma.2.1 ma.2.2 ?_
        cases c2 : schemeD a with
        | false =>
          try simp [Dw.wpT, wpE, wpA, wpI, wpO, wpSs, Dw.wpS, res, lookD, cmpR, ifD, truthD, backQ, backX, Dw.start, isiR, isTys, isTy, notR, bltR, lenOf, seqOf, okEq, okIn, plainD, plainDs, deepD, deepDs, eq_ss, eq_tt, eq_ll, eqDs, idxR, setDs, Dw.inR, slcV, newL, sameC, mthR, rcvOk, lstAt, resM, tgT, tgTs, Dw.augR, Dw.intD, updM_same, seqI, resI, binR, negR, anyM, flat_tup, flat_str, flat_int, flat_lst, flat_bl, flat_non]
          exact h0 (by simp [valB, c2])
        | true =>
          try simp [Dw.wpT, wpE, wpA, wpI, wpO, wpSs, Dw.wpS, res, lookD, cmpR, ifD, truthD, backQ, backX, Dw.start, isiR, isTys, isTy, notR, bltR, lenOf, seqOf, okEq, okIn, plainD, plainDs, deepD, deepDs, eq_ss, eq_tt, eq_ll, eqDs, idxR, setDs, Dw.inR, slcV, newL, sameC, mthR, rcvOk, lstAt, resM, tgT, tgTs, Dw.augR, Dw.intD, updM_same, seqI, resI, binR, negR, anyM, flat_tup, flat_str, flat_int, flat_lst, flat_bl, flat_non]
          exact h1 (by simp [valB, c1, c2])
  | _ =>
    first
    | (cases mp; done)
    | (simp [Dw.wpT, wpE, wpA, wpI, wpO, wpSs, Dw.wpS, res, lookD, cmpR, ifD, truthD, backQ, backX, Dw.start, isiR, isTys, isTy, notR, bltR, lenOf, seqOf, okEq, okIn, plainD, plainDs, deepD, deepDs, eq_ss, eq_tt, eq_ll, eqDs, idxR, setDs, Dw.inR, slcV, newL, sameC, mthR, rcvOk, lstAt, resM, tgT, tgTs, Dw.augR, Dw.intD, updM_same, seqI, resI, binR, negR, anyM, flat_tup, flat_str, flat_int, flat_lst, flat_bl, flat_non, gvb, gr1, gr, f__law_is_face]; exact h0 rfl)
theorem val_loopL {k : Nat} (hk : 6 ≤ k) {E : DEnds} {V e2 e3 : Option D} : ∀ (es : List D) (e1 : Option D), (∀ e ∈ es, Mem1 e) → (es.all valB = true → ∀ e1, E.nx [V, e1, e2, e3] M) → (es.all valB = false → E.rt (.bl false) M) → forTurns (tgT (.var 1)) (wpSs (callW pg k) gvb) anyM E es [V, e1, e2, e3] M
  | [], e1, _, h1, _ => ⟨trivial, h1 rfl _⟩
  | e :: es, e1, hm, h1, h0 => by
    refine for_cons trivial fun N hN => ?_
    show wpSs (callW pg k) gvb _ [V, some e, e2, e3] M
    refine val_stepL hk (hm e (by simp)) (fun c => hN _ _ (val_loopL hk es _ (fun x hx => hm x (by simp [hx])) (fun c' => h1 (by simp [c, c'])) fun c' => h0 (by rw [List.all_cons, c, c']; rfl))) fun c => h0 (by simp [c])
theorem nm_step {k : Nat} {ls : List D} (ht : ∀ l ∈ ls, TextD l) (hl : ls.length < 63) {N : DS → DM → Prop} {E : DEnds} {V e1 e3 : Option D} (h1 : sortedB ls = true → N [V, e1, some (.lst ls), e3] M) (h0 : sortedB ls = false → E.rt (.bl false) M) : wpSs (callW pg k) gnb { E with nx := N, ct := N, bk := E.nx } [V, e1, some (.lst ls), e3] M := by
  simp [Dw.wpT, wpE, wpA, wpI, wpO, wpSs, Dw.wpS, res, lookD, cmpR, ifD, truthD, backQ, backX, Dw.start, isiR, isTys, isTy, notR, bltR, lenOf, seqOf, okEq, okIn, plainD, plainDs, deepD, deepDs, eq_ss, eq_tt, eq_ll, eqDs, idxR, setDs, Dw.inR, slcV, newL, sameC, mthR, rcvOk, lstAt, resM, tgT, tgTs, Dw.augR, Dw.intD, updM_same, seqI, resI, binR, negR, anyM, flat_tup, flat_str, flat_int, flat_lst, flat_bl, flat_non, gnb, gr3, gr2, gr1, gr, f__law_is_face, sstP]
  refine ⟨⟨hl, .inr ht⟩, fun es hs => ?_⟩
  have te : ∀ l ∈ es, TextD l := fun l h => ht l ((hs.2 l).mp h)
  obtain ⟨p1, p2⟩ := plain_texts ht
  obtain ⟨p3, p4⟩ := plain_texts te
  have e := eq_sortedT ht hs
  simp [Dw.wpT, wpE, wpA, wpI, wpO, wpSs, Dw.wpS, res, lookD, cmpR, ifD, truthD, backQ, backX, Dw.start, isiR, isTys, isTy, notR, bltR, lenOf, seqOf, okEq, okIn, plainD, plainDs, deepD, deepDs, eq_ss, eq_tt, eq_ll, eqDs, idxR, setDs, Dw.inR, slcV, newL, sameC, mthR, rcvOk, lstAt, resM, tgT, tgTs, Dw.augR, Dw.intD, updM_same, seqI, resI, binR, negR, anyM, flat_tup, flat_str, flat_int, flat_lst, flat_bl, flat_non, p1, p2, p3, p4, e]
  cases c : sortedB ls <;> try simp [Dw.wpT, wpE, wpA, wpI, wpO, wpSs, Dw.wpS, res, lookD, cmpR, ifD, truthD, backQ, backX, Dw.start, isiR, isTys, isTy, notR, bltR, lenOf, seqOf, okEq, okIn, plainD, plainDs, deepD, deepDs, eq_ss, eq_tt, eq_ll, eqDs, idxR, setDs, Dw.inR, slcV, newL, sameC, mthR, rcvOk, lstAt, resM, tgT, tgTs, Dw.augR, Dw.intD, updM_same, seqI, resI, binR, negR, anyM, flat_tup, flat_str, flat_int, flat_lst, flat_bl, flat_non]
  · exact h0 c
  · exact h1 c
theorem facel_any {d : D} (hj : 7 ≤ j) (hw : Wide d) (hQ : Q (.bl (faceB d)) M) : (callW pg j).run 30 [d] M Qx Q := by
  obtain ⟨hp, hw⟩ := hw
  obtain ⟨k, rfl⟩ : ∃ k, j = k + 1 := ⟨j - 1, by omega⟩
  rw [callW_run (f := f__law_is_face) rfl]
  refine ⟨rfl, rfl, ?_⟩
  cases d with
  | tup ds =>
    show wpSs (callW pg k) (g0 :: gr) _ [some (.tup ds), none, none, none] M
    match ds, hp, hw, hQ with
    | [], hp, hw, hQ =>
      simp [Dw.wpT, wpE, wpA, wpI, wpO, wpSs, Dw.wpS, res, lookD, cmpR, ifD, truthD, backQ, backX, Dw.start, isiR, isTys, isTy, notR, bltR, lenOf, seqOf, okEq, okIn, plainD, plainDs, deepD, deepDs, eq_ss, eq_tt, eq_ll, eqDs, idxR, setDs, Dw.inR, slcV, newL, sameC, mthR, rcvOk, lstAt, resM, tgT, tgTs, Dw.augR, Dw.intD, updM_same, seqI, resI, binR, negR, anyM, flat_tup, flat_str, flat_int, flat_lst, flat_bl, flat_non, g0, f__law_is_face]
      exact hQ
    | [_], hp, hw, hQ =>
      simp [Dw.wpT, wpE, wpA, wpI, wpO, wpSs, Dw.wpS, res, lookD, cmpR, ifD, truthD, backQ, backX, Dw.start, isiR, isTys, isTy, notR, bltR, lenOf, seqOf, okEq, okIn, plainD, plainDs, deepD, deepDs, eq_ss, eq_tt, eq_ll, eqDs, idxR, setDs, Dw.inR, slcV, newL, sameC, mthR, rcvOk, lstAt, resM, tgT, tgTs, Dw.augR, Dw.intD, updM_same, seqI, resI, binR, negR, anyM, flat_tup, flat_str, flat_int, flat_lst, flat_bl, flat_non, g0, f__law_is_face]
      exact hQ
    | [_, _], hp, hw, hQ =>
      simp [Dw.wpT, wpE, wpA, wpI, wpO, wpSs, Dw.wpS, res, lookD, cmpR, ifD, truthD, backQ, backX, Dw.start, isiR, isTys, isTy, notR, bltR, lenOf, seqOf, okEq, okIn, plainD, plainDs, deepD, deepDs, eq_ss, eq_tt, eq_ll, eqDs, idxR, setDs, Dw.inR, slcV, newL, sameC, mthR, rcvOk, lstAt, resM, tgT, tgTs, Dw.augR, Dw.intD, updM_same, seqI, resI, binR, negR, anyM, flat_tup, flat_str, flat_int, flat_lst, flat_bl, flat_non, g0, f__law_is_face]
      exact hQ
    | [_, _, _], hp, hw, hQ =>
      simp [Dw.wpT, wpE, wpA, wpI, wpO, wpSs, Dw.wpS, res, lookD, cmpR, ifD, truthD, backQ, backX, Dw.start, isiR, isTys, isTy, notR, bltR, lenOf, seqOf, okEq, okIn, plainD, plainDs, deepD, deepDs, eq_ss, eq_tt, eq_ll, eqDs, idxR, setDs, Dw.inR, slcV, newL, sameC, mthR, rcvOk, lstAt, resM, tgT, tgTs, Dw.augR, Dw.intD, updM_same, seqI, resI, binR, negR, anyM, flat_tup, flat_str, flat_int, flat_lst, flat_bl, flat_non, g0, f__law_is_face]
      exact hQ
    | _ :: _ :: _ :: _ :: _ :: r, hp, hw, hQ =>
      simp [Dw.wpT, wpE, wpA, wpI, wpO, wpSs, Dw.wpS, res, lookD, cmpR, ifD, truthD, backQ, backX, Dw.start, isiR, isTys, isTy, notR, bltR, lenOf, seqOf, okEq, okIn, plainD, plainDs, deepD, deepDs, eq_ss, eq_tt, eq_ll, eqDs, idxR, setDs, Dw.inR, slcV, newL, sameC, mthR, rcvOk, lstAt, resM, tgT, tgTs, Dw.augR, Dw.intD, updM_same, seqI, resI, binR, negR, anyM, flat_tup, flat_str, flat_int, flat_lst, flat_bl, flat_non, g0, f__law_is_face, len_e4]
      exact hQ
    | [n, es, os, vs], hp, hw, hQ =>
      simp only [plainD, plainDs, Bool.and_eq_true] at hp
      obtain ⟨p1, p2, p3, p4, _⟩ := hp
      have hw := hw _ rfl
      simp [Dw.wpT, wpE, wpA, wpI, wpO, wpSs, Dw.wpS, res, lookD, cmpR, ifD, truthD, backQ, backX, Dw.start, isiR, isTys, isTy, notR, bltR, lenOf, seqOf, okEq, okIn, plainD, plainDs, deepD, deepDs, eq_ss, eq_tt, eq_ll, eqDs, idxR, setDs, Dw.inR, slcV, newL, sameC, mthR, rcvOk, lstAt, resM, tgT, tgTs, Dw.augR, Dw.intD, updM_same, seqI, resI, binR, negR, anyM, flat_tup, flat_str, flat_int, flat_lst, flat_bl, flat_non, g0, f__law_is_face, ixD]
      refine namel_any BB (by omega) p1 ?_
      cases c1 : nameD n with
      | false =>
        try simp [Dw.wpT, wpE, wpA, wpI, wpO, wpSs, Dw.wpS, res, lookD, cmpR, ifD, truthD, backQ, backX, Dw.start, isiR, isTys, isTy, notR, bltR, lenOf, seqOf, okEq, okIn, plainD, plainDs, deepD, deepDs, eq_ss, eq_tt, eq_ll, eqDs, idxR, setDs, Dw.inR, slcV, newL, sameC, mthR, rcvOk, lstAt, resM, tgT, tgTs, Dw.augR, Dw.intD, updM_same, seqI, resI, binR, negR, anyM, flat_tup, flat_str, flat_int, flat_lst, flat_bl, flat_non]
        simpa [faceB, c1] using hQ
      | true =>
        simp [Dw.wpT, wpE, wpA, wpI, wpO, wpSs, Dw.wpS, res, lookD, cmpR, ifD, truthD, backQ, backX, Dw.start, isiR, isTys, isTy, notR, bltR, lenOf, seqOf, okEq, okIn, plainD, plainDs, deepD, deepDs, eq_ss, eq_tt, eq_ll, eqDs, idxR, setDs, Dw.inR, slcV, newL, sameC, mthR, rcvOk, lstAt, resM, tgT, tgTs, Dw.augR, Dw.intD, updM_same, seqI, resI, binR, negR, anyM, flat_tup, flat_str, flat_int, flat_lst, flat_bl, flat_non, cut_one]
        refine lc_keep (p := noT) ?_ _ _ (fun t ht R N' h => ?_) ?_
        · trivial
        · have pt : plainD t = true := by
            simp only [List.mem_cons, List.not_mem_nil, or_false] at ht
            rcases ht with rfl | rfl | rfl
            · exact p2
            · exact p3
            · exact p4
          simp [Dw.wpT, wpE, wpA, wpI, wpO, wpSs, Dw.wpS, res, lookD, cmpR, ifD, truthD, backQ, backX, Dw.start, isiR, isTys, isTy, notR, bltR, lenOf, seqOf, okEq, okIn, plainD, plainDs, deepD, deepDs, eq_ss, eq_tt, eq_ll, eqDs, idxR, setDs, Dw.inR, slcV, newL, sameC, mthR, rcvOk, lstAt, resM, tgT, tgTs, Dw.augR, Dw.intD, updM_same, seqI, resI, binR, negR, anyM, flat_tup, flat_str, flat_int, flat_lst, flat_bl, flat_non, wipeD, Dw.wpC]
          cases t <;> first
            | (cases pt; done)
            | (try simp [Dw.wpT, wpE, wpA, wpI, wpO, wpSs, Dw.wpS, res, lookD, cmpR, ifD, truthD, backQ, backX, Dw.start, isiR, isTys, isTy, notR, bltR, lenOf, seqOf, okEq, okIn, plainD, plainDs, deepD, deepDs, eq_ss, eq_tt, eq_ll, eqDs, idxR, setDs, Dw.inR, slcV, newL, sameC, mthR, rcvOk, lstAt, resM, tgT, tgTs, Dw.augR, Dw.intD, updM_same, seqI, resI, binR, negR, anyM, flat_tup, flat_str, flat_int, flat_lst, flat_bl, flat_non]; exact h)
        rw [List.nil_append]
        have e := filter_no (p := isTupD) (q := noT) (fun _ => rfl) [es, os, vs]
        have hp : plainDs ([es, os, vs].filter noT) = true := plain_filt (by simp [plainDs, p2, p3, p4])
        simp [Dw.wpT, wpE, wpA, wpI, wpO, wpSs, Dw.wpS, res, lookD, cmpR, ifD, truthD, backQ, backX, Dw.start, isiR, isTys, isTy, notR, bltR, lenOf, seqOf, okEq, okIn, plainD, plainDs, deepD, deepDs, eq_ss, eq_tt, eq_ll, eqDs, idxR, setDs, Dw.inR, slcV, newL, sameC, mthR, rcvOk, lstAt, resM, tgT, tgTs, Dw.augR, Dw.intD, updM_same, seqI, resI, binR, negR, anyM, flat_tup, flat_str, flat_int, flat_lst, flat_bl, flat_non, e, hp]
        cases es with
        | tup es =>
          cases os with
          | tup os =>
            cases vs with
            | tup vs =>
              have le := (hw es (by simp)).1
              have lo := (hw os (by simp)).1
              have lv := (hw vs (by simp)).1
              simp [Dw.wpT, wpE, wpA, wpI, wpO, wpSs, Dw.wpS, res, lookD, cmpR, ifD, truthD, backQ, backX, Dw.start, isiR, isTys, isTy, notR, bltR, lenOf, seqOf, okEq, okIn, plainD, plainDs, deepD, deepDs, eq_ss, eq_tt, eq_ll, eqDs, idxR, setDs, Dw.inR, slcV, newL, sameC, mthR, rcvOk, lstAt, resM, tgT, tgTs, Dw.augR, Dw.intD, updM_same, seqI, resI, binR, negR, anyM, flat_tup, flat_str, flat_int, flat_lst, flat_bl, flat_non, isTupD]
              refine ⟨trivial, trivial, trivial, ?_⟩
              refine eff_loopL (k := k) (by omega) es _ (hw es (by simp)).2 (fun c2 e1 => ?_) fun c => ?_
              · refine ⟨trivial, trivial, trivial, ?_⟩
                refine val_loopL (k := k) (by omega) vs _ (hw vs (by simp)).2 (fun c3 e1 => ?_) fun c => ?_
                · show wpSs (callW pg k) (g3 :: gr3) _ [some (.tup [n, .tup es, .tup os, .tup vs]), e1, none, none] M
                  simp [Dw.wpT, wpE, wpA, wpI, wpO, wpSs, Dw.wpS, res, lookD, cmpR, ifD, truthD, backQ, backX, Dw.start, isiR, isTys, isTy, notR, bltR, lenOf, seqOf, okEq, okIn, plainD, plainDs, deepD, deepDs, eq_ss, eq_tt, eq_ll, eqDs, idxR, setDs, Dw.inR, slcV, newL, sameC, mthR, rcvOk, lstAt, resM, tgT, tgTs, Dw.augR, Dw.intD, updM_same, seqI, resI, binR, negR, anyM, flat_tup, flat_str, flat_int, flat_lst, flat_bl, flat_non, g3, gr2, gr1, gr, f__law_is_face, ixD]
                  refine lc_keep (p := noN) ?_ _ _ (fun t ht R N' h => ?_) ?_
                  · trivial
                  · simp [Dw.wpT, wpE, wpA, wpI, wpO, wpSs, Dw.wpS, res, lookD, cmpR, ifD, truthD, backQ, backX, Dw.start, isiR, isTys, isTy, notR, bltR, lenOf, seqOf, okEq, okIn, plainD, plainDs, deepD, deepDs, eq_ss, eq_tt, eq_ll, eqDs, idxR, setDs, Dw.inR, slcV, newL, sameC, mthR, rcvOk, lstAt, resM, tgT, tgTs, Dw.augR, Dw.intD, updM_same, seqI, resI, binR, negR, anyM, flat_tup, flat_str, flat_int, flat_lst, flat_bl, flat_non, wipeD, Dw.wpC]
                    refine namel_any BB (by omega) (plain_mem p3 t ht) ?_
                    cases c : nameD t <;> simp [noN, c] at h <;> try simp [Dw.wpT, wpE, wpA, wpI, wpO, wpSs, Dw.wpS, res, lookD, cmpR, ifD, truthD, backQ, backX, Dw.start, isiR, isTys, isTy, notR, bltR, lenOf, seqOf, okEq, okIn, plainD, plainDs, deepD, deepDs, eq_ss, eq_tt, eq_ll, eqDs, idxR, setDs, Dw.inR, slcV, newL, sameC, mthR, rcvOk, lstAt, resM, tgT, tgTs, Dw.augR, Dw.intD, updM_same, seqI, resI, binR, negR, anyM, flat_tup, flat_str, flat_int, flat_lst, flat_bl, flat_non] <;> exact h
                  rw [List.nil_append]
                  have e := filter_no (p := nameD) (q := noN) (fun _ => rfl) os
                  have hp : plainDs (os.filter noN) = true := plain_filt p3
                  simp [Dw.wpT, wpE, wpA, wpI, wpO, wpSs, Dw.wpS, res, lookD, cmpR, ifD, truthD, backQ, backX, Dw.start, isiR, isTys, isTy, notR, bltR, lenOf, seqOf, okEq, okIn, plainD, plainDs, deepD, deepDs, eq_ss, eq_tt, eq_ll, eqDs, idxR, setDs, Dw.inR, slcV, newL, sameC, mthR, rcvOk, lstAt, resM, tgT, tgTs, Dw.augR, Dw.intD, updM_same, seqI, resI, binR, negR, anyM, flat_tup, flat_str, flat_int, flat_lst, flat_bl, flat_non, e, hp]
                  cases c4 : os.all nameD with
                  | false =>
                    try simp [Dw.wpT, wpE, wpA, wpI, wpO, wpSs, Dw.wpS, res, lookD, cmpR, ifD, truthD, backQ, backX, Dw.start, isiR, isTys, isTy, notR, bltR, lenOf, seqOf, okEq, okIn, plainD, plainDs, deepD, deepDs, eq_ss, eq_tt, eq_ll, eqDs, idxR, setDs, Dw.inR, slcV, newL, sameC, mthR, rcvOk, lstAt, resM, tgT, tgTs, Dw.augR, Dw.intD, updM_same, seqI, resI, binR, negR, anyM, flat_tup, flat_str, flat_int, flat_lst, flat_bl, flat_non]
                    simpa [faceB, namesB, c4] using hQ
                  | true =>
                    try simp [Dw.wpT, wpE, wpA, wpI, wpO, wpSs, Dw.wpS, res, lookD, cmpR, ifD, truthD, backQ, backX, Dw.start, isiR, isTys, isTy, notR, bltR, lenOf, seqOf, okEq, okIn, plainD, plainDs, deepD, deepDs, eq_ss, eq_tt, eq_ll, eqDs, idxR, setDs, Dw.inR, slcV, newL, sameC, mthR, rcvOk, lstAt, resM, tgT, tgTs, Dw.augR, Dw.intD, updM_same, seqI, resI, binR, negR, anyM, flat_tup, flat_str, flat_int, flat_lst, flat_bl, flat_non]
                    show Dw.wpI (callW pg k) _ _ M _ _
                    simp only [wpI, wpE, wpA]
                    refine ⟨trivial, trivial, trivial, ?_⟩
                    refine lc_mem (M := M) (f := firstD) ?_ _ _ (fun e he R hR => ?_) ?_
                    · trivial
                    · obtain ⟨x, r, rfl, _⟩ := eff_name (List.all_eq_true.mp c2 e he)
                      refine ⟨trivial, ?_⟩
                      simp [Dw.wpT, wpE, wpA, wpI, wpO, wpSs, Dw.wpS, res, lookD, cmpR, ifD, truthD, backQ, backX, Dw.start, isiR, isTys, isTy, notR, bltR, lenOf, seqOf, okEq, okIn, plainD, plainDs, deepD, deepDs, eq_ss, eq_tt, eq_ll, eqDs, idxR, setDs, Dw.inR, slcV, newL, sameC, mthR, rcvOk, lstAt, resM, tgT, tgTs, Dw.augR, Dw.intD, updM_same, seqI, resI, binR, negR, anyM, flat_tup, flat_str, flat_int, flat_lst, flat_bl, flat_non, ixD]
                      exact hR
                    rw [List.nil_append]
                    simp only [newL, Bool.false_eq_true, if_false]
                    refine ⟨trivial, trivial, trivial, trivial, trivial, trivial, ?_⟩
                    refine lc_mem (M := M) (f := firstD) ?_ _ _ (fun e he R hR => ?_) ?_
                    · trivial
                    · obtain ⟨x, r, rfl, _⟩ := val_name (List.all_eq_true.mp c3 e he)
                      refine ⟨trivial, ?_⟩
                      simp [Dw.wpT, wpE, wpA, wpI, wpO, wpSs, Dw.wpS, res, lookD, cmpR, ifD, truthD, backQ, backX, Dw.start, isiR, isTys, isTy, notR, bltR, lenOf, seqOf, okEq, okIn, plainD, plainDs, deepD, deepDs, eq_ss, eq_tt, eq_ll, eqDs, idxR, setDs, Dw.inR, slcV, newL, sameC, mthR, rcvOk, lstAt, resM, tgT, tgTs, Dw.augR, Dw.intD, updM_same, seqI, resI, binR, negR, anyM, flat_tup, flat_str, flat_int, flat_lst, flat_bl, flat_non, ixD]
                      exact hR
                    rw [List.nil_append]
                    refine ⟨trivial, ?_⟩
                    have te : ∀ l ∈ es.map firstD, TextD l := fun l hl => by
                      obtain ⟨e, he, rfl⟩ := List.mem_map.mp hl
                      obtain ⟨x, r, rfl, _⟩ := eff_name (List.all_eq_true.mp c2 e he)
                      exact ⟨x, rfl⟩
                    have tv : ∀ l ∈ vs.map firstD, TextD l := fun l hl => by
                      obtain ⟨e, he, rfl⟩ := List.mem_map.mp hl
                      obtain ⟨x, r, rfl, _⟩ := val_name (List.all_eq_true.mp c3 e he)
                      exact ⟨x, rfl⟩
                    have to : ∀ l ∈ os, TextD l := fun l hl => by
                      obtain ⟨x, rfl, _⟩ := name_str (List.all_eq_true.mp c4 l hl)
                      exact ⟨x, rfl⟩
                    refine for_cons trivial fun N hN => ?_
                    refine nm_step te (by rw [List.length_map]; exact le) (fun s1 => hN _ _ ?_) fun s1 => ?_
                    · refine for_cons trivial fun N hN => ?_
                      refine nm_step to lo (fun s2 => hN _ _ ?_) fun s2 => ?_
                      · refine for_cons trivial fun N hN => ?_
                        refine nm_step tv (by rw [List.length_map]; exact lv) (fun s3 => hN _ _ ?_) fun s3 => ?_
                        · refine ⟨trivial, ?_⟩
                          show Q (.bl true) M
                          simpa [faceB, effsB, namesB, valsB, c1, c2, c3, c4, s1, s2, s3] using hQ
                        · simpa [faceB, valsB, s3] using hQ
                      · simpa [faceB, namesB, s2] using hQ
                    · simpa [faceB, effsB, s1] using hQ
                · try simp [Dw.wpT, wpE, wpA, wpI, wpO, wpSs, Dw.wpS, res, lookD, cmpR, ifD, truthD, backQ, backX, Dw.start, isiR, isTys, isTy, notR, bltR, lenOf, seqOf, okEq, okIn, plainD, plainDs, deepD, deepDs, eq_ss, eq_tt, eq_ll, eqDs, idxR, setDs, Dw.inR, slcV, newL, sameC, mthR, rcvOk, lstAt, resM, tgT, tgTs, Dw.augR, Dw.intD, updM_same, seqI, resI, binR, negR, anyM, flat_tup, flat_str, flat_int, flat_lst, flat_bl, flat_non]
                  simpa [faceB, valsB, c] using hQ
              · try simp [Dw.wpT, wpE, wpA, wpI, wpO, wpSs, Dw.wpS, res, lookD, cmpR, ifD, truthD, backQ, backX, Dw.start, isiR, isTys, isTy, notR, bltR, lenOf, seqOf, okEq, okIn, plainD, plainDs, deepD, deepDs, eq_ss, eq_tt, eq_ll, eqDs, idxR, setDs, Dw.inR, slcV, newL, sameC, mthR, rcvOk, lstAt, resM, tgT, tgTs, Dw.augR, Dw.intD, updM_same, seqI, resI, binR, negR, anyM, flat_tup, flat_str, flat_int, flat_lst, flat_bl, flat_non]
                simpa [faceB, effsB, c] using hQ
            | _ =>
              simp [Dw.wpT, wpE, wpA, wpI, wpO, wpSs, Dw.wpS, res, lookD, cmpR, ifD, truthD, backQ, backX, Dw.start, isiR, isTys, isTy, notR, bltR, lenOf, seqOf, okEq, okIn, plainD, plainDs, deepD, deepDs, eq_ss, eq_tt, eq_ll, eqDs, idxR, setDs, Dw.inR, slcV, newL, sameC, mthR, rcvOk, lstAt, resM, tgT, tgTs, Dw.augR, Dw.intD, updM_same, seqI, resI, binR, negR, anyM, flat_tup, flat_str, flat_int, flat_lst, flat_bl, flat_non, isTupD]
              simpa [faceB, valsB] using hQ
          | _ =>
            simp [Dw.wpT, wpE, wpA, wpI, wpO, wpSs, Dw.wpS, res, lookD, cmpR, ifD, truthD, backQ, backX, Dw.start, isiR, isTys, isTy, notR, bltR, lenOf, seqOf, okEq, okIn, plainD, plainDs, deepD, deepDs, eq_ss, eq_tt, eq_ll, eqDs, idxR, setDs, Dw.inR, slcV, newL, sameC, mthR, rcvOk, lstAt, resM, tgT, tgTs, Dw.augR, Dw.intD, updM_same, seqI, resI, binR, negR, anyM, flat_tup, flat_str, flat_int, flat_lst, flat_bl, flat_non, isTupD]
            simpa [faceB, namesB] using hQ
        | _ =>
          simp [Dw.wpT, wpE, wpA, wpI, wpO, wpSs, Dw.wpS, res, lookD, cmpR, ifD, truthD, backQ, backX, Dw.start, isiR, isTys, isTy, notR, bltR, lenOf, seqOf, okEq, okIn, plainD, plainDs, deepD, deepDs, eq_ss, eq_tt, eq_ll, eqDs, idxR, setDs, Dw.inR, slcV, newL, sameC, mthR, rcvOk, lstAt, resM, tgT, tgTs, Dw.augR, Dw.intD, updM_same, seqI, resI, binR, negR, anyM, flat_tup, flat_str, flat_int, flat_lst, flat_bl, flat_non, isTupD]
          simpa [faceB, effsB] using hQ
  | _ =>
    first
    | (cases hp; done)
    | (simp [Dw.wpT, wpE, wpA, wpI, wpO, wpSs, Dw.wpS, res, lookD, cmpR, ifD, truthD, backQ, backX, Dw.start, isiR, isTys, isTy, notR, bltR, lenOf, seqOf, okEq, okIn, plainD, plainDs, deepD, deepDs, eq_ss, eq_tt, eq_ll, eqDs, idxR, setDs, Dw.inR, slcV, newL, sameC, mthR, rcvOk, lstAt, resM, tgT, tgTs, Dw.augR, Dw.intD, updM_same, seqI, resI, binR, negR, anyM, flat_tup, flat_str, flat_int, flat_lst, flat_bl, flat_non, f__law_is_face]; exact hQ)
end K04
set_option Elab.async false
set_option linter.all false
set_option maxRecDepth 100000
set_option maxHeartbeats 4000000
/-! K04R: faces as they are drawn. -/
namespace K04
open PySem PySem.Spec PyProof.Rows L2 Dw LL
variable {j : Nat} {M : DM} {Qx : QX} {Q : QD}
/-- a small member -/
def MemS (e : D) : Prop := plainD e = true ∧ narrow e = true ∧ sz e ≤ 2000 ∧ deepD e ≤ 20
theorem MemS.one {e : D} (h : MemS e) : Mem1 e := ⟨h.1, h.2.1, by have := h.2.2.1; omega⟩
def EffOk (e : D) : Prop := effB e = true ∧ MemS e
def ValOk (e : D) : Prop := valB e = true ∧ MemS e
def Up (ls : List D) : Prop := ls.Pairwise fun x y => ltD x y = true
def NamesOk (n : Nat) (ls : List D) : Prop := (∀ l ∈ ls, nameD l = true) ∧ Up ls ∧ ls.length ≤ n
structure FaceOk (es os vs : List D) : Prop where
  pe : ∀ e ∈ es, EffOk e
  ue : Up (es.map firstD)
  le : es.length ≤ 4
  po : NamesOk 4 os
  pv : ∀ e ∈ vs, ValOk e
  uv : Up (vs.map firstD)
  lv : vs.length ≤ 4
theorem names_text {n : Nat} {ls : List D} (h : NamesOk n ls) : ∀ l ∈ ls, TextD l := fun l hl => by
  obtain ⟨x, rfl, _⟩ := name_str (h.1 l hl)
  exact ⟨x, rfl⟩
theorem lc_first {C : Calls} {tg : D → DS → (DS → Prop) → Prop} {elt : DTE} {G : DM → Prop} {δ : DS} {Qx : QX} {Q : List D → DM → Prop} {P R0 : D → Prop} {J : DM → Prop} (hG : ∀ M, J M → G M) (h : ∀ e M (R : QD), R0 e → J M → (∀ y M', firstD y = e → P y → J M' → R y M') → tg e δ fun δ' => elt δ' M Qx R) :
    ∀ ds acc M, (∀ e ∈ ds, R0 e) → J M → (∀ y ∈ acc, P y) → (∀ ys M', (∀ y ∈ ys, P y) → ys.map firstD = acc.map firstD ++ ds → J M' → Q ys M') → lcTurns tg (wpC C []) elt G δ Qx Q ds acc M
  | [], acc, M, _, hJ, ha, hQ => ⟨hG M hJ, hQ acc M ha (by simp) hJ⟩
  | d :: ds, acc, M, hr, hJ, ha, hQ => ⟨hG M hJ, h d M _ (hr d (by simp)) hJ fun y M' hf hy hJ' => lc_first hG h ds (acc ++ [y]) M' (fun e he => hr e (by simp [he])) hJ' (fun z hz => by
      rcases List.mem_append.mp hz with hz | hz
      · exact ha z hz
      · rw [List.mem_singleton.mp hz]
        exact hy) fun ys M2 h1 h2 h3 => hQ ys M2 h1 (by rw [h2, List.map_append, List.map_cons, List.map_nil, hf, List.append_assoc]; rfl) h3⟩
/-- names drawn, made a set, sorted -/
theorem names_draw {C : Calls} {d : D} {n : Nat} {δ : DS} {Qx : QX} {elt : DTE} {tg : D → DS → (DS → Prop) → Prop} {K : QD} (hn : n ≤ 4)
    (h : ∀ e M (R : QD), Deal M d → (∀ x M', nameB x = true → Deal M' d → R (.str x) M') → tg e δ fun δ' => elt δ' M Qx R)
    (hK : ∀ es M', NamesOk n es → Deal M' d → K (.lst es) M') (hD : Deal M d) : lcTurns tg (wpC C []) elt anyM δ Qx (fun ys M2 => sstP (.lst ys) M2 K) (rangeD 0 n) [] M := by
  refine lc_all (P := fun y => nameD y = true) (J := fun M => Deal M d) (fun _ _ => trivial) (fun e M R hJ hR => h e M R hJ fun x M' hx => hR _ _ hx) _ _ _ hD (by simp) fun ys M2 h1 h2 h3 => ?_
  rw [range_len] at h2
  have ht : ∀ l ∈ ys, TextD l := fun l hl => by
    obtain ⟨x, rfl, _⟩ := name_str (h1 l hl)
    exact ⟨x, rfl⟩
  simp only [sstP]
  have hl : ys.length ≤ n := by simp at h2; omega
  refine ⟨⟨by omega, .inr ht⟩, fun es hs => hK es M2 ⟨fun l hl => h1 l ((hs.2 l).mp hl), hs.1, ?_⟩ h3⟩
  refine Nat.le_trans (nodup_len es ys ?_ fun l hl => (hs.2 l).mp hl) hl
  refine List.Pairwise.imp_of_mem (fun {a b} ha hb hab e => ?_) hs.1
  subst e
  rw [text_irr (ht a ((hs.2 a).mp ha))] at hab
  cases hab
theorem closed_draw {d : D} (hj : 11 ≤ j) (hD : Deal M d) (hQ : ∀ (τ : LL.TT) M', τ.ok → τ.high ≤ 4 → τ.size ≤ 15 → τ.within 0 0 → Deal M' d → Q τ.d M') : (callW pg j).run 28 [d] M Qx Q := by
  obtain ⟨k, rfl⟩ : ∃ k, j = k + 1 := ⟨j - 1, by omega⟩
  rw [callW_run (f := f__law_closed_type) rfl]
  refine ⟨rfl, rfl, ?_⟩
  simp [Dw.wpT, wpE, wpA, wpI, wpO, wpSs, Dw.wpS, res, lookD, cmpR, ifD, truthD, backQ, backX, Dw.start, isiR, isTys, isTy, notR, bltR, lenOf, seqOf, okEq, okIn, plainD, plainDs, deepD, deepDs, eq_ss, eq_tt, eq_ll, eqDs, idxR, setDs, Dw.inR, slcV, newL, sameC, mthR, rcvOk, lstAt, resM, tgT, tgTs, Dw.augR, Dw.intD, updM_same, seqI, resI, binR, negR, anyM, flat_tup, flat_str, flat_int, flat_lst, flat_bl, flat_non, f__law_closed_type]
  refine atype_draw BB d (ty := 0) (en := 0) (by omega) (by omega) (by omega) (by omega) 3 (p := 2) (by omega) (by omega) hD fun t M' ht g => ?_
  obtain ⟨τ, rfl, ok, hh, hs, w⟩ := ty_tt (by omega) (by omega) ht
  exact hQ τ M' ok (by omega) (by simpa using hs) w g
theorem eff_ok {x : List Nat} {α β : LL.TT} (hx : nameB x = true) (oa : α.ok) (ha : α.high ≤ 4) (sa : α.size ≤ 15) (wa : α.within 0 0) (ob : β.ok) (hb : β.high ≤ 4) (sb : β.size ≤ 15) (wb : β.within 0 0) : EffOk (.tup [.str x, α.d, β.d]) := by
  have ca := closed_tt oa (by omega) (by omega) wa
  have cb := closed_tt ob (by omega) (by omega) wb
  have pa := tt_plain α oa
  have pb := tt_plain β ob
  have za := sz_tt α oa
  have zb := sz_tt β ob
  obtain ⟨da, na⟩ := tt_deep α oa
  obtain ⟨db, nb⟩ := tt_deep β ob
  refine ⟨by simp [effB, nameD, hx, ca, cb], by simp [plainD, plainDs, pa, pb], by simp [narrow, narrows, na, nb, isTupD], ?_, ?_⟩
  · simp only [sz, szs]; omega
  · simp only [deepD, deepDs]; omega
theorem val_ok {x : List Nat} {τ : LL.TT} {a b : Int} (hx : nameB x = true) (ok : τ.ok) (hh : τ.high ≤ 4) (hs : τ.size ≤ 15) (hc : schemeD (.tup [.int a, .int b, τ.d]) = true) : ValOk (.tup [.str x, .tup [.int a, .int b, τ.d]]) := by
  have pa := tt_plain τ ok
  have za := sz_tt τ ok
  obtain ⟨da, na⟩ := tt_deep τ ok
  refine ⟨by simp [valB, nameD, hx, hc], by simp [plainD, plainDs, pa], by simp [narrow, narrows, na, isTupD], ?_, ?_⟩
  · simp only [sz, szs]; omega
  · simp only [deepD, deepDs]; omega
/-! ### a face drawn -/
def a1 : S := match f__law_a_face.body with
    | s :: _ => s
    | _ => .pass
def ar1 : List S := f__law_a_face.body.drop 1
def a2 : S := match ar1 with
    | s :: _ => s
    | _ => .pass
def ar2 : List S := ar1.drop 1
def a3 : S := match ar2 with
    | s :: _ => s
    | _ => .pass
def ar3 : List S := ar2.drop 1
theorem aface_draw {d : D} {x : List Nat} (hj : 12 ≤ j) (hx : nameB x = true) (hD : Deal M d) (hQ : ∀ es os vs M', FaceOk es os vs → Deal M' d → Q (.tup [.str x, .tup es, .tup os, .tup vs]) M') : (callW pg j).run 29 [d, .str x] M Qx Q := by
  obtain ⟨k, rfl⟩ : ∃ k, j = k + 1 := ⟨j - 1, by omega⟩
  rw [callW_run (f := f__law_a_face) rfl]
  refine ⟨rfl, rfl, ?_⟩
  show wpSs (callW pg k) (a1 :: ar1) _ [some d, some (.str x), none, none, none, none, none] M
  simp [Dw.wpT, wpE, wpA, wpI, wpO, wpSs, Dw.wpS, res, lookD, cmpR, ifD, truthD, backQ, backX, Dw.start, isiR, isTys, isTy, notR, bltR, lenOf, seqOf, okEq, okIn, plainD, plainDs, deepD, deepDs, eq_ss, eq_tt, eq_ll, eqDs, idxR, setDs, Dw.inR, slcV, newL, sameC, mthR, rcvOk, lstAt, resM, tgT, tgTs, Dw.augR, Dw.intD, updM_same, seqI, resI, binR, negR, anyM, flat_tup, flat_str, flat_int, flat_lst, flat_bl, flat_non, a1, f__law_a_face]
  refine any_at BB (by omega) hD (by omega) (by omega) fun i M1 i0 i1 g1 => ?_
  simp [Dw.wpT, wpE, wpA, wpI, wpO, wpSs, Dw.wpS, res, lookD, cmpR, ifD, truthD, backQ, backX, Dw.start, isiR, isTys, isTy, notR, bltR, lenOf, seqOf, okEq, okIn, plainD, plainDs, deepD, deepDs, eq_ss, eq_tt, eq_ll, eqDs, idxR, setDs, Dw.inR, slcV, newL, sameC, mthR, rcvOk, lstAt, resM, tgT, tgTs, Dw.augR, Dw.intD, updM_same, seqI, resI, binR, negR, anyM, flat_tup, flat_str, flat_int, flat_lst, flat_bl, flat_non, rngI]
  refine ⟨by unfold sizeLine; omega, ?_⟩
  refine names_draw (n := i.toNat) (d := d) (by omega) (fun e M R hJ hR => ?_) (fun es M2 ne g2 => ?_) g1
  · simp [Dw.wpT, wpE, wpA, wpI, wpO, wpSs, Dw.wpS, res, lookD, cmpR, ifD, truthD, backQ, backX, Dw.start, isiR, isTys, isTy, notR, bltR, lenOf, seqOf, okEq, okIn, plainD, plainDs, deepD, deepDs, eq_ss, eq_tt, eq_ll, eqDs, idxR, setDs, Dw.inR, slcV, newL, sameC, mthR, rcvOk, lstAt, resM, tgT, tgTs, Dw.augR, Dw.intD, updM_same, seqI, resI, binR, negR, anyM, flat_tup, flat_str, flat_int, flat_lst, flat_bl, flat_non, wipeD]
    exact name_draw BB (by omega) hJ hR
  · try simp [Dw.wpT, wpE, wpA, wpI, wpO, wpSs, Dw.wpS, res, lookD, cmpR, ifD, truthD, backQ, backX, Dw.start, isiR, isTys, isTy, notR, bltR, lenOf, seqOf, okEq, okIn, plainD, plainDs, deepD, deepDs, eq_ss, eq_tt, eq_ll, eqDs, idxR, setDs, Dw.inR, slcV, newL, sameC, mthR, rcvOk, lstAt, resM, tgT, tgTs, Dw.augR, Dw.intD, updM_same, seqI, resI, binR, negR, anyM, flat_tup, flat_str, flat_int, flat_lst, flat_bl, flat_non]
    refine lc_first (P := EffOk) (R0 := fun e => nameD e = true) (J := fun M => Deal M d) (fun _ _ => trivial) (fun e M R he hJ hR => ?_) _ _ _ ne.1 g2 (by simp) fun ys M3 h1 h2 g3 => ?_
    · obtain ⟨y, rfl, hy⟩ := name_str he
      simp [Dw.wpT, wpE, wpA, wpI, wpO, wpSs, Dw.wpS, res, lookD, cmpR, ifD, truthD, backQ, backX, Dw.start, isiR, isTys, isTy, notR, bltR, lenOf, seqOf, okEq, okIn, plainD, plainDs, deepD, deepDs, eq_ss, eq_tt, eq_ll, eqDs, idxR, setDs, Dw.inR, slcV, newL, sameC, mthR, rcvOk, lstAt, resM, tgT, tgTs, Dw.augR, Dw.intD, updM_same, seqI, resI, binR, negR, anyM, flat_tup, flat_str, flat_int, flat_lst, flat_bl, flat_non, wipeD]
      refine closed_draw (by omega) hJ fun α M4 oa ha sa wa g4 => ?_
      try simp [Dw.wpT, wpE, wpA, wpI, wpO, wpSs, Dw.wpS, res, lookD, cmpR, ifD, truthD, backQ, backX, Dw.start, isiR, isTys, isTy, notR, bltR, lenOf, seqOf, okEq, okIn, plainD, plainDs, deepD, deepDs, eq_ss, eq_tt, eq_ll, eqDs, idxR, setDs, Dw.inR, slcV, newL, sameC, mthR, rcvOk, lstAt, resM, tgT, tgTs, Dw.augR, Dw.intD, updM_same, seqI, resI, binR, negR, anyM, flat_tup, flat_str, flat_int, flat_lst, flat_bl, flat_non]
      refine closed_draw (by omega) g4 fun β M5 ob hb sb wb g5 => ?_
      exact hR _ _ rfl (eff_ok hy oa ha sa wa ob hb sb wb) g5
    have h2 : ys.map firstD = es := by simpa using h2
    have le : ys.length ≤ 4 := by
      have := congrArg List.length h2
      rw [List.length_map] at this
      have := ne.2.2
      omega
    show wpSs (callW pg k) (a2 :: ar2) _ [some d, some (.str x), some (.tup ys), none, none, none, none] M3
    simp [Dw.wpT, wpE, wpA, wpI, wpO, wpSs, Dw.wpS, res, lookD, cmpR, ifD, truthD, backQ, backX, Dw.start, isiR, isTys, isTy, notR, bltR, lenOf, seqOf, okEq, okIn, plainD, plainDs, deepD, deepDs, eq_ss, eq_tt, eq_ll, eqDs, idxR, setDs, Dw.inR, slcV, newL, sameC, mthR, rcvOk, lstAt, resM, tgT, tgTs, Dw.augR, Dw.intD, updM_same, seqI, resI, binR, negR, anyM, flat_tup, flat_str, flat_int, flat_lst, flat_bl, flat_non, a2, ar1, f__law_a_face]
    refine any_at BB (by omega) g3 (by omega) (by omega) fun i' M4 i0 i1 g4 => ?_
    simp [Dw.wpT, wpE, wpA, wpI, wpO, wpSs, Dw.wpS, res, lookD, cmpR, ifD, truthD, backQ, backX, Dw.start, isiR, isTys, isTy, notR, bltR, lenOf, seqOf, okEq, okIn, plainD, plainDs, deepD, deepDs, eq_ss, eq_tt, eq_ll, eqDs, idxR, setDs, Dw.inR, slcV, newL, sameC, mthR, rcvOk, lstAt, resM, tgT, tgTs, Dw.augR, Dw.intD, updM_same, seqI, resI, binR, negR, anyM, flat_tup, flat_str, flat_int, flat_lst, flat_bl, flat_non, rngI]
    refine ⟨by unfold sizeLine; omega, ?_⟩
    refine names_draw (n := i'.toNat) (d := d) (by omega) (fun e M R hJ hR => ?_) (fun os M5 no g5 => ?_) g4
    · simp [Dw.wpT, wpE, wpA, wpI, wpO, wpSs, Dw.wpS, res, lookD, cmpR, ifD, truthD, backQ, backX, Dw.start, isiR, isTys, isTy, notR, bltR, lenOf, seqOf, okEq, okIn, plainD, plainDs, deepD, deepDs, eq_ss, eq_tt, eq_ll, eqDs, idxR, setDs, Dw.inR, slcV, newL, sameC, mthR, rcvOk, lstAt, resM, tgT, tgTs, Dw.augR, Dw.intD, updM_same, seqI, resI, binR, negR, anyM, flat_tup, flat_str, flat_int, flat_lst, flat_bl, flat_non, wipeD]
      exact name_draw BB (by omega) hJ hR
    try simp [Dw.wpT, wpE, wpA, wpI, wpO, wpSs, Dw.wpS, res, lookD, cmpR, ifD, truthD, backQ, backX, Dw.start, isiR, isTys, isTy, notR, bltR, lenOf, seqOf, okEq, okIn, plainD, plainDs, deepD, deepDs, eq_ss, eq_tt, eq_ll, eqDs, idxR, setDs, Dw.inR, slcV, newL, sameC, mthR, rcvOk, lstAt, resM, tgT, tgTs, Dw.augR, Dw.intD, updM_same, seqI, resI, binR, negR, anyM, flat_tup, flat_str, flat_int, flat_lst, flat_bl, flat_non]
    show wpSs (callW pg k) (a3 :: ar3) _ [some d, some (.str x), some (.tup ys), some (.tup os), none, none, none] M5
    simp [Dw.wpT, wpE, wpA, wpI, wpO, wpSs, Dw.wpS, res, lookD, cmpR, ifD, truthD, backQ, backX, Dw.start, isiR, isTys, isTy, notR, bltR, lenOf, seqOf, okEq, okIn, plainD, plainDs, deepD, deepDs, eq_ss, eq_tt, eq_ll, eqDs, idxR, setDs, Dw.inR, slcV, newL, sameC, mthR, rcvOk, lstAt, resM, tgT, tgTs, Dw.augR, Dw.intD, updM_same, seqI, resI, binR, negR, anyM, flat_tup, flat_str, flat_int, flat_lst, flat_bl, flat_non, a3, ar2, ar1, f__law_a_face]
    refine any_at BB (by omega) g5 (by omega) (by omega) fun i2 M6 i0 i1 g6 => ?_
    simp [Dw.wpT, wpE, wpA, wpI, wpO, wpSs, Dw.wpS, res, lookD, cmpR, ifD, truthD, backQ, backX, Dw.start, isiR, isTys, isTy, notR, bltR, lenOf, seqOf, okEq, okIn, plainD, plainDs, deepD, deepDs, eq_ss, eq_tt, eq_ll, eqDs, idxR, setDs, Dw.inR, slcV, newL, sameC, mthR, rcvOk, lstAt, resM, tgT, tgTs, Dw.augR, Dw.intD, updM_same, seqI, resI, binR, negR, anyM, flat_tup, flat_str, flat_int, flat_lst, flat_bl, flat_non, rngI]
    refine ⟨by unfold sizeLine; omega, ?_⟩
    refine names_draw (n := i2.toNat) (d := d) (by omega) (fun e M R hJ hR => ?_) (fun vs M7 nv g7 => ?_) g6
    · simp [Dw.wpT, wpE, wpA, wpI, wpO, wpSs, Dw.wpS, res, lookD, cmpR, ifD, truthD, backQ, backX, Dw.start, isiR, isTys, isTy, notR, bltR, lenOf, seqOf, okEq, okIn, plainD, plainDs, deepD, deepDs, eq_ss, eq_tt, eq_ll, eqDs, idxR, setDs, Dw.inR, slcV, newL, sameC, mthR, rcvOk, lstAt, resM, tgT, tgTs, Dw.augR, Dw.intD, updM_same, seqI, resI, binR, negR, anyM, flat_tup, flat_str, flat_int, flat_lst, flat_bl, flat_non, wipeD]
      exact name_draw BB (by omega) hJ hR
    try simp [Dw.wpT, wpE, wpA, wpI, wpO, wpSs, Dw.wpS, res, lookD, cmpR, ifD, truthD, backQ, backX, Dw.start, isiR, isTys, isTy, notR, bltR, lenOf, seqOf, okEq, okIn, plainD, plainDs, deepD, deepDs, eq_ss, eq_tt, eq_ll, eqDs, idxR, setDs, Dw.inR, slcV, newL, sameC, mthR, rcvOk, lstAt, resM, tgT, tgTs, Dw.augR, Dw.intD, updM_same, seqI, resI, binR, negR, anyM, flat_tup, flat_str, flat_int, flat_lst, flat_bl, flat_non]
    refine lc_first (P := ValOk) (R0 := fun e => nameD e = true) (J := fun M => Deal M d) (fun _ _ => trivial) (fun e M R he hJ hR => ?_) _ _ _ nv.1 g7 (by simp) fun zs M8 h3 h4 g8 => ?_
    · obtain ⟨y, rfl, hy⟩ := name_str he
      simp [Dw.wpT, wpE, wpA, wpI, wpO, wpSs, Dw.wpS, res, lookD, cmpR, ifD, truthD, backQ, backX, Dw.start, isiR, isTys, isTy, notR, bltR, lenOf, seqOf, okEq, okIn, plainD, plainDs, deepD, deepDs, eq_ss, eq_tt, eq_ll, eqDs, idxR, setDs, Dw.inR, slcV, newL, sameC, mthR, rcvOk, lstAt, resM, tgT, tgTs, Dw.augR, Dw.intD, updM_same, seqI, resI, binR, negR, anyM, flat_tup, flat_str, flat_int, flat_lst, flat_bl, flat_non, wipeD]
      refine any_at BB (by omega) hJ (by omega) (by omega) fun ty M1 t0 t1 g1 => ?_
      try simp [Dw.wpT, wpE, wpA, wpI, wpO, wpSs, Dw.wpS, res, lookD, cmpR, ifD, truthD, backQ, backX, Dw.start, isiR, isTys, isTy, notR, bltR, lenOf, seqOf, okEq, okIn, plainD, plainDs, deepD, deepDs, eq_ss, eq_tt, eq_ll, eqDs, idxR, setDs, Dw.inR, slcV, newL, sameC, mthR, rcvOk, lstAt, resM, tgT, tgTs, Dw.augR, Dw.intD, updM_same, seqI, resI, binR, negR, anyM, flat_tup, flat_str, flat_int, flat_lst, flat_bl, flat_non]
      refine any_at BB (by omega) g1 (by omega) (by omega) fun en M2 e0 e1 g2 => ?_
      try simp [Dw.wpT, wpE, wpA, wpI, wpO, wpSs, Dw.wpS, res, lookD, cmpR, ifD, truthD, backQ, backX, Dw.start, isiR, isTys, isTy, notR, bltR, lenOf, seqOf, okEq, okIn, plainD, plainDs, deepD, deepDs, eq_ss, eq_tt, eq_ll, eqDs, idxR, setDs, Dw.inR, slcV, newL, sameC, mthR, rcvOk, lstAt, resM, tgT, tgTs, Dw.augR, Dw.intD, updM_same, seqI, resI, binR, negR, anyM, flat_tup, flat_str, flat_int, flat_lst, flat_bl, flat_non]
      refine atype_draw BB d (ty := ty) (en := en) (by omega) (by omega) (by omega) (by omega) 3 (p := 2) (by omega) (by omega) g2 fun t M' ht g => ?_
      obtain ⟨τ, rfl, ok, hh, hs, w⟩ := ty_tt (by omega) (by omega) ht
      have w6 : τ.within 60 60 := ⟨fun i hi => by have := w.1 i hi; omega, fun i hi => by have := w.2 i hi; omega⟩
      have hs : τ.size ≤ 15 := by simpa using hs
      refine plain_at B (by omega) ok (by omega) w6 ?_
      have hr := ren_high (atI (addAll [] τ.tv)) (atI (addAll [] τ.rv)) τ
      have la := addAll_len (n := 60) w6.1
      have lb := addAll_len (n := 60) w6.2
      refine hR _ _ rfl (val_ok hy (ren_ok τ ok (fun i hi => ?_) fun i hi => ?_) (by omega) (by omega) (scheme_tt ok (by omega) (by omega) w6)) g
      · have := atI_lt ((mem_addAll τ.tv []).mpr (.inr hi))
        omega
      · have := atI_lt ((mem_addAll τ.rv []).mpr (.inr hi))
        omega
    have h4 : zs.map firstD = vs := by simpa using h4
    have lv : zs.length ≤ 4 := by
      have := congrArg List.length h4
      rw [List.length_map] at this
      have := nv.2.2
      omega
    show wpSs (callW pg k) ar3 _ [some d, some (.str x), some (.tup ys), some (.tup os), some (.tup zs), none, none] M8
    simp [Dw.wpT, wpE, wpA, wpI, wpO, wpSs, Dw.wpS, res, lookD, cmpR, ifD, truthD, backQ, backX, Dw.start, isiR, isTys, isTy, notR, bltR, lenOf, seqOf, okEq, okIn, plainD, plainDs, deepD, deepDs, eq_ss, eq_tt, eq_ll, eqDs, idxR, setDs, Dw.inR, slcV, newL, sameC, mthR, rcvOk, lstAt, resM, tgT, tgTs, Dw.augR, Dw.intD, updM_same, seqI, resI, binR, negR, anyM, flat_tup, flat_str, flat_int, flat_lst, flat_bl, flat_non, ar3, ar2, ar1, f__law_a_face]
    exact hQ _ _ _ _ ⟨h1, by rw [h2]; exact ne.2.1, le, ⟨no.1, no.2.1, by have := no.2.2; omega⟩, h3, by rw [h4]; exact nv.2.1, lv⟩ g8
theorem effs_text {es : List D} (h : ∀ e ∈ es, EffOk e) : ∀ l ∈ es.map firstD, TextD l := fun l hl => by
  obtain ⟨e, he, rfl⟩ := List.mem_map.mp hl
  obtain ⟨x, r, rfl, _⟩ := eff_name (h e he).1
  exact ⟨x, rfl⟩
theorem vals_text {es : List D} (h : ∀ e ∈ es, ValOk e) : ∀ l ∈ es.map firstD, TextD l := fun l hl => by
  obtain ⟨e, he, rfl⟩ := List.mem_map.mp hl
  obtain ⟨x, r, rfl, _⟩ := val_name (h e he).1
  exact ⟨x, rfl⟩
theorem name_mem {d : D} (h : nameD d = true) : MemS d := by
  obtain ⟨x, rfl, _⟩ := name_str h
  exact ⟨rfl, rfl, by simp [sz], by simp [deepD]⟩
/-- a part of a face, bent or not -/
def RowOk (r : D) : Prop := plainD r = true ∧ ∀ es, r = .tup es → es.length < 63 ∧ ∀ e ∈ es, Mem1 e
theorem row_of {rs : List D} (h : ∀ e ∈ rs, MemS e) (hl : rs.length < 63) : RowOk (.tup rs) :=
  ⟨plain_all fun u hu => (h u hu).1, fun es e => by cases e; exact ⟨hl, fun e he => (h e he).one⟩⟩
theorem wide_of {xs : List D} (h : ∀ x ∈ xs, RowOk x) : Wide (.tup xs) :=
  ⟨plain_all fun u hu => (h u hu).1, fun ys e es hes => by cases e; exact (h _ hes).2 es rfl⟩
theorem deep_bound {rs : List D} {n : Nat} (h : ∀ e ∈ rs, deepD e ≤ n) : deepDs rs ≤ n := by
  induction rs with
  | nil => simp [deepDs]
  | cons r rs ih =>
    have h1 := h r (by simp)
    have h2 := ih fun e he => h e (by simp [he])
    simp only [deepDs]
    omega
theorem parts_mem {es os vs : List D} (h : FaceOk es os vs) : (∀ e ∈ es, MemS e) ∧ (∀ e ∈ os, MemS e) ∧ ∀ e ∈ vs, MemS e :=
  ⟨fun e he => (h.pe e he).2, fun e he => name_mem (h.po.1 e he), fun e he => (h.pv e he).2⟩
theorem face_ok {x : List Nat} {es os vs : List D} (hx : nameB x = true) (h : FaceOk es os vs) : faceB (.tup [.str x, .tup es, .tup os, .tup vs]) = true ∧ Wide (.tup [.str x, .tup es, .tup os, .tup vs]) ∧ deepD (.tup [.str x, .tup es, .tup os, .tup vs]) ≤ 24 := by
  obtain ⟨m1, m2, m3⟩ := parts_mem h
  have s1 := (sorted_pwT _ (effs_text h.pe)).mpr h.ue
  have s2 := (sorted_pwT _ (names_text h.po)).mpr h.po.2.1
  have s3 := (sorted_pwT _ (vals_text h.pv)).mpr h.uv
  have c1 : es.all effB = true := List.all_eq_true.mpr fun e he => (h.pe e he).1
  have c2 : os.all nameD = true := List.all_eq_true.mpr fun e he => h.po.1 e he
  have c3 : vs.all valB = true := List.all_eq_true.mpr fun e he => (h.pv e he).1
  have le := h.le
  have lo := h.po.2.2
  have lv := h.lv
  refine ⟨by simp [faceB, effsB, namesB, valsB, nameD, hx, s1, s2, s3, c1, c2, c3], wide_of fun r hr => ?_, ?_⟩
  · simp only [List.mem_cons, List.not_mem_nil, or_false] at hr
    rcases hr with rfl | rfl | rfl | rfl
    · exact ⟨rfl, fun es e => by cases e⟩
    · exact row_of m1 (by omega)
    · exact row_of m2 (by omega)
    · exact row_of m3 (by omega)
  · have d1 := deep_bound fun e he => (m1 e he).2.2.2
    have d2 := deep_bound fun e he => (m2 e he).2.2.2
    have d3 := deep_bound fun e he => (m3 e he).2.2.2
    simp only [deepD, deepDs]
    omega
/-! ### a face bent -/
def b1 : S := match f__law_bent.body with
    | s :: _ => s
    | _ => .pass
def br1 : List S := f__law_bent.body.drop 1
def br2 : List S := br1.drop 1
def b3 : S := match br2 with
    | s :: _ => s
    | _ => .pass
def br3 : List S := br2.drop 1
def b4 : S := match br3 with
    | s :: _ => s
    | _ => .pass
def br4 : List S := br3.drop 1
def oddL : List D := [.non, .str w_let, .tup [], .tup [.str w_ask], .tup [.str w_ask, .tup [.str w_int], .tup [.str w_var, .int 0]], .tup [.str w_zz, .tup [.int 0, .int 0, .tup [.str w_var, .int 0]]], .str w_A, .tup [.str w_q, .tup [.str w_int], .tup [.str w_int], .tup [.str w_int]], .int 3]
theorem odd_mem : ∀ o ∈ oddL, MemS o := fun o ho => by
  simp only [oddL, List.mem_cons, List.not_mem_nil, or_false] at ho
  rcases ho with rfl | rfl | rfl | rfl | rfl | rfl | rfl | rfl | rfl <;> exact ⟨rfl, rfl, by decide, by decide⟩
theorem step_rev : ∀ {ls : List D}, ls.length ≤ 4 → stepD ls none none (-1) = ls.reverse
  | [], _ => rfl
  | [a], _ => by
    have e1 : (Builtin.Slice.sliceAdjust none none (-1) 1).1 = 0 := by decide
    have e2 : (Builtin.Slice.slicePlaces (Builtin.Slice.sliceAdjust none none (-1) 1).1 (Builtin.Slice.sliceAdjust none none (-1) 1).2 (-1)) = 1 := by decide
    unfold stepD
    rw [show ([a] : List D).length = 1 from rfl, show ((1 : Nat) : Int) = 1 from rfl, e2, e1]
    rfl
  | [a, b], _ => by
    have e1 : (Builtin.Slice.sliceAdjust none none (-1) 2).1 = 1 := by decide
    have e2 : (Builtin.Slice.slicePlaces (Builtin.Slice.sliceAdjust none none (-1) 2).1 (Builtin.Slice.sliceAdjust none none (-1) 2).2 (-1)) = 2 := by decide
    unfold stepD
    rw [show ([a, b] : List D).length = 2 from rfl, show ((2 : Nat) : Int) = 2 from rfl, e2, e1]
    rfl
  | [a, b, c], _ => by
    have e1 : (Builtin.Slice.sliceAdjust none none (-1) 3).1 = 2 := by decide
    have e2 : (Builtin.Slice.slicePlaces (Builtin.Slice.sliceAdjust none none (-1) 3).1 (Builtin.Slice.sliceAdjust none none (-1) 3).2 (-1)) = 3 := by decide
    unfold stepD
    rw [show ([a, b, c] : List D).length = 3 from rfl, show ((3 : Nat) : Int) = 3 from rfl, e2, e1]
    rfl
  | [a, b, c, d], _ => by
    have e1 : (Builtin.Slice.sliceAdjust none none (-1) 4).1 = 3 := by decide
    have e2 : (Builtin.Slice.slicePlaces (Builtin.Slice.sliceAdjust none none (-1) 4).1 (Builtin.Slice.sliceAdjust none none (-1) 4).2 (-1)) = 4 := by decide
    unfold stepD
    rw [show ([a, b, c, d] : List D).length = 4 from rfl, show ((4 : Nat) : Int) = 4 from rfl, e2, e1]
    rfl
  | _ :: _ :: _ :: _ :: _ :: _, h => absurd h (by simp)
/-- the second half: bent is known -/
theorem bent_end {k : Nat} {d bent : D} {fs : List D} {e3 e5 e6 : Option D} {i : Int} (hk : 2 ≤ k) (hi : 1 ≤ i ∧ i < 4) (hfs : ∀ x ∈ fs, RowOk x) (hl : fs.length = 4) (hb : RowOk bent) (hD : Deal M d) (hQ : ∀ v M', Wide v → Deal M' d → Q v M') :
    wpSs (callW pg k) br4 { nx := fun _ M1 => Q .non M1, rt := Q, ex := fun _ => Qx } [some d, some (.tup fs), some (.int i), e3, some bent, e5, e6] M := by
  have c1 : ∀ x ∈ Dw.cutD fs none (some i), RowOk x := fun x hx => hfs x (cutD_mem hx)
  have c2 : ∀ x ∈ Dw.cutD fs (some (i + 1)) none, RowOk x := fun x hx => hfs x (cutD_mem hx)
  have c3 : ∀ x ∈ Dw.cutD fs none (some 3), RowOk x := fun x hx => hfs x (cutD_mem hx)
  have c4 : ∀ x ∈ Dw.cutD fs (some 1) none, RowOk x := fun x hx => hfs x (cutD_mem hx)
  have l1 := cutD_len fs none (some i)
  have l2 := cutD_len fs (some (i + 1)) none
  have l3 := cutD_len fs none (some 3)
  have l4 := cutD_len fs (some 1) none
  simp [Dw.wpT, wpE, wpA, wpI, wpO, wpSs, Dw.wpS, res, lookD, cmpR, ifD, truthD, backQ, backX, Dw.start, isiR, isTys, isTy, notR, bltR, lenOf, seqOf, okEq, okIn, plainD, plainDs, deepD, deepDs, eq_ss, eq_tt, eq_ll, eqDs, idxR, setDs, Dw.inR, slcV, newL, sameC, mthR, rcvOk, lstAt, resM, tgT, tgTs, Dw.augR, Dw.intD, updM_same, seqI, resI, binR, negR, anyM, flat_tup, flat_str, flat_int, flat_lst, flat_bl, flat_non, br4, br3, br2, br1, f__law_bent, sizeLine, -List.length_append]
  refine ⟨by omega, by rw [List.length_append, List.length_singleton]; omega, by omega, by omega, ?_⟩
  have row_str : ∀ w, RowOk (.str w) := fun w => ⟨rfl, fun es e => by cases e⟩
  have row_nil : RowOk (.tup []) := row_of (rs := []) (by simp) (by simp)
  have v1 : Wide (.tup (Dw.cutD fs none (some i) ++ bent :: Dw.cutD fs (some (i + 1)) none)) := wide_of fun x hx => by
    rcases List.mem_append.mp hx with h | h
    · exact c1 x h
    · rcases List.mem_cons.mp h with rfl | h
      · exact hb
      · exact c2 x h
  refine of_at BB (by omega) hD (by simp) (by simp) fun y hy M' g => hQ y M' ?_ g
  simp only [List.mem_cons, List.not_mem_nil, or_false] at hy
  rcases hy with rfl | rfl | rfl | rfl | rfl | rfl | rfl | rfl | rfl | rfl
  · exact v1
  · exact v1
  · exact v1
  · exact v1
  · exact ⟨plain_all fun u hu => (hfs u hu).1, fun ys e => by cases e⟩
  · refine wide_of fun x hx => ?_
    rcases List.mem_append.mp hx with h | h
    · exact hfs x h
    · rw [List.mem_singleton.mp h]
      exact row_nil
  · exact wide_of c3
  · refine wide_of fun x hx => ?_
    rcases List.mem_cons.mp hx with rfl | h
    · exact row_str _
    · exact c4 x h
  · exact ⟨rfl, fun ys e => by cases e⟩
  · exact wide_of hfs
theorem bent_mid {k : Nat} {d : D} {fs rs : List D} {e4 e5 e6 : Option D} {i : Int} (hk : 2 ≤ k) (hi : 1 ≤ i ∧ i < 4) (hfs : ∀ x ∈ fs, RowOk x) (hl : fs.length = 4) (hr : ∀ e ∈ rs, MemS e) (lr : rs.length ≤ 4) (hD : Deal M d) (hQ : ∀ v M', Wide v → Deal M' d → Q v M') :
    wpSs (callW pg k) (b3 :: br3) { nx := fun _ M1 => Q .non M1, rt := Q, ex := fun _ => Qx } [some d, some (.tup fs), some (.int i), some (.tup rs), e4, e5, e6] M := by
  simp [Dw.wpT, wpE, wpA, wpI, wpO, wpSs, Dw.wpS, res, lookD, cmpR, ifD, truthD, backQ, backX, Dw.start, isiR, isTys, isTy, notR, bltR, lenOf, seqOf, okEq, okIn, plainD, plainDs, deepD, deepDs, eq_ss, eq_tt, eq_ll, eqDs, idxR, setDs, Dw.inR, slcV, newL, sameC, mthR, rcvOk, lstAt, resM, tgT, tgTs, Dw.augR, Dw.intD, updM_same, seqI, resI, binR, negR, anyM, flat_tup, flat_str, flat_int, flat_lst, flat_bl, flat_non, b3, br2, br1, f__law_bent, -List.length_append]
  refine any_at BB (by omega) hD (by omega) (by omega) fun a M1 a0 a1 g1 => ?_
  try simp [Dw.wpT, wpE, wpA, wpI, wpO, wpSs, Dw.wpS, res, lookD, cmpR, ifD, truthD, backQ, backX, Dw.start, isiR, isTys, isTy, notR, bltR, lenOf, seqOf, okEq, okIn, plainD, plainDs, deepD, deepDs, eq_ss, eq_tt, eq_ll, eqDs, idxR, setDs, Dw.inR, slcV, newL, sameC, mthR, rcvOk, lstAt, resM, tgT, tgTs, Dw.augR, Dw.intD, updM_same, seqI, resI, binR, negR, anyM, flat_tup, flat_str, flat_int, flat_lst, flat_bl, flat_non]
  refine of_at BB (xs := oddL) (by omega) g1 (by simp [oddL]) (by simp [oddL]) fun o ho M2 g2 => ?_
  show wpSs (callW pg k) (b4 :: br4) _ [some d, some (.tup fs), some (.int i), some (.tup rs), e4, some (.int a), some o] M2
  have mo := odd_mem o ho
  have c1 : ∀ x ∈ Dw.cutD rs none (some a), MemS x := fun x hx => hr x (cutD_mem hx)
  have c2 : ∀ x ∈ Dw.cutD rs (some a) none, MemS x := fun x hx => hr x (cutD_mem hx)
  have c3 : ∀ x ∈ Dw.cutD rs none (some 1), MemS x := fun x hx => hr x (cutD_mem hx)
  have c4 : ∀ x ∈ Dw.cutD rs (some 1) none, MemS x := fun x hx => hr x (cutD_mem hx)
  have l1 := cutD_len rs none (some a)
  have l2 := cutD_len rs (some a) none
  have l3 := cutD_len rs none (some 1)
  have l4 := cutD_len rs (some 1) none
  simp [Dw.wpT, wpE, wpA, wpI, wpO, wpSs, Dw.wpS, res, lookD, cmpR, ifD, truthD, backQ, backX, Dw.start, isiR, isTys, isTy, notR, bltR, lenOf, seqOf, okEq, okIn, plainD, plainDs, deepD, deepDs, eq_ss, eq_tt, eq_ll, eqDs, idxR, setDs, Dw.inR, slcV, newL, sameC, mthR, rcvOk, lstAt, resM, tgT, tgTs, Dw.augR, Dw.intD, updM_same, seqI, resI, binR, negR, anyM, flat_tup, flat_str, flat_int, flat_lst, flat_bl, flat_non, b4, br3, br2, br1, f__law_bent, sizeLine, stpR, step_rev lr, -List.length_append]
  refine ⟨by omega, by rw [List.length_append, List.length_singleton]; omega, by omega, by omega, ?_⟩
  refine of_at BB (by omega) g2 (by simp) (by simp) fun y hy M' g => bent_end hk hi hfs hl ?_ g hQ
  simp only [List.mem_cons, List.not_mem_nil, or_false] at hy
  rcases hy with rfl | rfl | rfl | rfl | rfl | rfl | rfl
  · refine row_of (fun x hx => ?_) (by simp only [List.length_append, List.length_cons]; omega)
    rcases List.mem_append.mp hx with h | h
    · exact c1 x h
    · rcases List.mem_cons.mp h with rfl | h
      · exact mo
      · exact c2 x h
  · exact row_of (fun x hx => hr x (List.mem_reverse.mp hx)) (by rw [List.length_reverse]; omega)
  · refine row_of (fun x hx => ?_) (by rw [List.length_append]; omega)
    rcases List.mem_append.mp hx with h | h
    · exact hr x h
    · exact c3 x h
  · exact ⟨plain_all fun u hu => (hr u hu).1, fun ys e => by cases e⟩
  · exact ⟨rfl, fun ys e => by cases e⟩
  · exact row_of c4 (by omega)
  · exact row_of hr (by omega)
theorem bent_draw {d : D} {x : List Nat} {es os vs : List D} (hj : 4 ≤ j) (hx : nameB x = true) (h : FaceOk es os vs) (hD : Deal M d) (hQ : ∀ v M', Wide v → Deal M' d → Q v M') : (callW pg j).run 31 [d, .tup [.str x, .tup es, .tup os, .tup vs]] M Qx Q := by
  obtain ⟨m1, m2, m3⟩ := parts_mem h
  have le := h.le
  have lo := h.po.2.2
  have lv := h.lv
  have hfs : ∀ r ∈ [D.str x, .tup es, .tup os, .tup vs], RowOk r := fun r hr => by
    simp only [List.mem_cons, List.not_mem_nil, or_false] at hr
    rcases hr with rfl | rfl | rfl | rfl
    · exact ⟨rfl, fun es e => by cases e⟩
    · exact row_of m1 (by omega)
    · exact row_of m2 (by omega)
    · exact row_of m3 (by omega)
  obtain ⟨k, rfl⟩ : ∃ k, j = k + 1 := ⟨j - 1, by omega⟩
  rw [callW_run (f := f__law_bent) rfl]
  refine ⟨rfl, rfl, ?_⟩
  show wpSs (callW pg k) (b1 :: br1) _ [some d, some (.tup [.str x, .tup es, .tup os, .tup vs]), none, none, none, none, none] M
  simp [Dw.wpT, wpE, wpA, wpI, wpO, wpSs, Dw.wpS, res, lookD, cmpR, ifD, truthD, backQ, backX, Dw.start, isiR, isTys, isTy, notR, bltR, lenOf, seqOf, okEq, okIn, plainD, plainDs, deepD, deepDs, eq_ss, eq_tt, eq_ll, eqDs, idxR, setDs, Dw.inR, slcV, newL, sameC, mthR, rcvOk, lstAt, resM, tgT, tgTs, Dw.augR, Dw.intD, updM_same, seqI, resI, binR, negR, anyM, flat_tup, flat_str, flat_int, flat_lst, flat_bl, flat_non, b1, f__law_bent]
  refine any_at BB (by omega) hD (by omega) (by omega) fun i M1 i0 i1 g1 => ?_
  try simp [Dw.wpT, wpE, wpA, wpI, wpO, wpSs, Dw.wpS, res, lookD, cmpR, ifD, truthD, backQ, backX, Dw.start, isiR, isTys, isTy, notR, bltR, lenOf, seqOf, okEq, okIn, plainD, plainDs, deepD, deepDs, eq_ss, eq_tt, eq_ll, eqDs, idxR, setDs, Dw.inR, slcV, newL, sameC, mthR, rcvOk, lstAt, resM, tgT, tgTs, Dw.augR, Dw.intD, updM_same, seqI, resI, binR, negR, anyM, flat_tup, flat_str, flat_int, flat_lst, flat_bl, flat_non]
  have h3 : i = 0 ∨ i = 1 ∨ i = 2 := by omega
  rcases h3 with rfl | rfl | rfl
  · refine ⟨trivial, trivial, trivial, ?_⟩
    exact bent_mid (k := k) (i := 1) (by omega) (by omega) hfs rfl m1 le g1 hQ
  · refine ⟨trivial, trivial, trivial, ?_⟩
    exact bent_mid (k := k) (i := 2) (by omega) (by omega) hfs rfl m2 lo g1 hQ
  · refine ⟨trivial, trivial, trivial, ?_⟩
    exact bent_mid (k := k) (i := 3) (by omega) (by omega) hfs rfl m3 lv g1 hQ
end K04
set_option Elab.async false
set_option linter.all false
set_option maxRecDepth 100000
set_option maxHeartbeats 4000000
/-! K04L: the plain law of k04. -/
namespace K04
open PySem PySem.Spec PyProof.Rows L2 Dw LL
variable {j : Nat} {M : DM} {Qx : QX} {Q : QD}
def memE (S : List D) (e : D) : Bool := S.any fun z => eqD z (firstD e)
def memN (S : List D) (e : D) : Bool := S.any fun z => eqD z e
/-- a comprehension whose test draws -/
theorem lc_some {tg : D → DS → (DS → Prop) → Prop} {test : DS → DM → QX → (Bool → DM → Prop) → Prop} {elt : DTE} {G : DM → Prop} {δ : DS} {Qx : QX} {Q : List D → DM → Prop} {f : D → D} {P : D → Prop} {J : DM → Prop} (hG : ∀ M, J M → G M)
    (h : ∀ e M (R : QD) (N : DM → Prop), P e → J M → (∀ M', J M' → R (f e) M') → (∀ M', J M' → N M') → tg e δ fun δ' => test δ' M Qx fun b M' => match b with
      | true => elt δ' M' Qx R
      | false => N M') :
    ∀ (ds acc : List D) (M : DM), (∀ e ∈ ds, P e) → J M → (∀ (us : List D) M', us.Sublist ds → J M' → Q (acc ++ us.map f) M') → lcTurns tg test elt G δ Qx Q ds acc M
  | [], acc, M, _, hJ, hQ => ⟨hG M hJ, by simpa using hQ [] M (List.Sublist.refl _) hJ⟩
  | d :: ds, acc, M, hP, hJ, hQ => by
    refine ⟨hG M hJ, h d M (fun y M'' => lcTurns tg test elt G δ Qx Q ds (acc ++ [y]) M'') (fun M' => lcTurns tg test elt G δ Qx Q ds acc M') (hP d (by simp)) hJ (fun M' g => ?_) fun M' g => ?_⟩
    · refine lc_some hG h ds _ M' (fun e he => hP e (by simp [he])) g fun us M2 hu g2 => ?_
      have := hQ (d :: us) M2 (hu.cons_cons d) g2
      simpa using this
    · exact lc_some hG h ds _ M' (fun e he => hP e (by simp [he])) g fun us M2 hu g2 => hQ us M2 (hu.cons d) g2
theorem sub_filter {us os : List D} (h : us.Sublist os) (ht : ∀ l ∈ os, TextD l) (hu : Up os) : os.filter (memN us) = us := by
  have tu : ∀ l ∈ us, TextD l := fun l hl => ht l (h.subset hl)
  refine uniqT _ _ (fun l hl => ht l (List.mem_filter.mp hl).1) tu (List.Pairwise.sublist List.filter_sublist hu) (List.Pairwise.sublist h hu) fun d => ?_
  rw [List.mem_filter, memN, List.any_eq_true]
  constructor
  · rintro ⟨h1, z, hz, e⟩
    obtain ⟨x, rfl⟩ := tu z hz
    obtain ⟨y, rfl⟩ := ht d h1
    have : x = y := by simpa [eqD] using e
    subst this
    exact hz
  · intro hd
    refine ⟨h.subset hd, d, hd, ?_⟩
    obtain ⟨x, rfl⟩ := tu d hd
    simp [eqD]
theorem cut_at {n : D} {es os vs S1 S2 S3 : List D} (hj : 1 ≤ j) (h : FaceOk es os vs) (t1 : ∀ l ∈ S1, TextD l) (t2 : ∀ l ∈ S2, TextD l) (t3 : ∀ l ∈ S3, TextD l) (hQ : Q (.tup [n, .tup (es.filter (memE S1)), .tup (os.filter (memN S2)), .tup (vs.filter (memE S3))]) M) :
    (callW pg j).run 13 [.tup [n, .tup es, .tup os, .tup vs], .tup S1, .tup S2, .tup S3] M Qx Q := by
  have p1 := plain_texts t1
  have p2 := plain_texts t2
  have p3 := plain_texts t3
  obtain ⟨k, rfl⟩ : ∃ k, j = k + 1 := ⟨j - 1, by omega⟩
  rw [callW_run (f := f_cut_face) rfl]
  refine ⟨rfl, rfl, ?_⟩
  simp [Dw.wpT, wpE, wpA, wpI, wpO, wpSs, Dw.wpS, res, lookD, cmpR, ifD, truthD, backQ, backX, Dw.start, isiR, isTys, isTy, notR, bltR, lenOf, seqOf, okEq, okIn, plainD, plainDs, deepD, deepDs, eq_ss, eq_tt, eq_ll, eqDs, idxR, setDs, Dw.inR, slcV, newL, sameC, mthR, rcvOk, lstAt, resM, tgT, tgTs, Dw.augR, Dw.intD, updM_same, seqI, resI, binR, negR, anyM, flat_tup, flat_str, flat_int, flat_lst, flat_bl, flat_non, f_cut_face, ixD]
  refine lc_keep (p := memE S1) ?_ _ _ (fun e he R N h' => ?_) ?_
  · trivial
  · obtain ⟨x, r, rfl, _⟩ := eff_name (h.pe e he).1
    simp [Dw.wpT, wpE, wpA, wpI, wpO, wpSs, Dw.wpS, res, lookD, cmpR, ifD, truthD, backQ, backX, Dw.start, isiR, isTys, isTy, notR, bltR, lenOf, seqOf, okEq, okIn, plainD, plainDs, deepD, deepDs, eq_ss, eq_tt, eq_ll, eqDs, idxR, setDs, Dw.inR, slcV, newL, sameC, mthR, rcvOk, lstAt, resM, tgT, tgTs, Dw.augR, Dw.intD, updM_same, seqI, resI, binR, negR, anyM, flat_tup, flat_str, flat_int, flat_lst, flat_bl, flat_non, wipeD, Dw.wpC, ixD, p1]
    cases c : memE S1 (.tup (.str x :: r)) with
    | true =>
      have c' : (S1.any fun z => eqD z (.str x)) = true := c
      simp only [c] at h'
      simp [Dw.wpT, wpE, wpA, wpI, wpO, wpSs, Dw.wpS, res, lookD, cmpR, ifD, truthD, backQ, backX, Dw.start, isiR, isTys, isTy, notR, bltR, lenOf, seqOf, okEq, okIn, plainD, plainDs, deepD, deepDs, eq_ss, eq_tt, eq_ll, eqDs, idxR, setDs, Dw.inR, slcV, newL, sameC, mthR, rcvOk, lstAt, resM, tgT, tgTs, Dw.augR, Dw.intD, updM_same, seqI, resI, binR, negR, anyM, flat_tup, flat_str, flat_int, flat_lst, flat_bl, flat_non, c']
      exact h'
    | false =>
      have c' : (S1.any fun z => eqD z (.str x)) = false := c
      simp only [c] at h'
      simp [Dw.wpT, wpE, wpA, wpI, wpO, wpSs, Dw.wpS, res, lookD, cmpR, ifD, truthD, backQ, backX, Dw.start, isiR, isTys, isTy, notR, bltR, lenOf, seqOf, okEq, okIn, plainD, plainDs, deepD, deepDs, eq_ss, eq_tt, eq_ll, eqDs, idxR, setDs, Dw.inR, slcV, newL, sameC, mthR, rcvOk, lstAt, resM, tgT, tgTs, Dw.augR, Dw.intD, updM_same, seqI, resI, binR, negR, anyM, flat_tup, flat_str, flat_int, flat_lst, flat_bl, flat_non, c']
      exact h'
  rw [List.nil_append]
  try simp [Dw.wpT, wpE, wpA, wpI, wpO, wpSs, Dw.wpS, res, lookD, cmpR, ifD, truthD, backQ, backX, Dw.start, isiR, isTys, isTy, notR, bltR, lenOf, seqOf, okEq, okIn, plainD, plainDs, deepD, deepDs, eq_ss, eq_tt, eq_ll, eqDs, idxR, setDs, Dw.inR, slcV, newL, sameC, mthR, rcvOk, lstAt, resM, tgT, tgTs, Dw.augR, Dw.intD, updM_same, seqI, resI, binR, negR, anyM, flat_tup, flat_str, flat_int, flat_lst, flat_bl, flat_non]
  refine lc_keep (p := memE S3) ?_ _ _ (fun e he R N h' => ?_) ?_
  · trivial
  · obtain ⟨x, r, rfl, _⟩ := val_name (h.pv e he).1
    simp [Dw.wpT, wpE, wpA, wpI, wpO, wpSs, Dw.wpS, res, lookD, cmpR, ifD, truthD, backQ, backX, Dw.start, isiR, isTys, isTy, notR, bltR, lenOf, seqOf, okEq, okIn, plainD, plainDs, deepD, deepDs, eq_ss, eq_tt, eq_ll, eqDs, idxR, setDs, Dw.inR, slcV, newL, sameC, mthR, rcvOk, lstAt, resM, tgT, tgTs, Dw.augR, Dw.intD, updM_same, seqI, resI, binR, negR, anyM, flat_tup, flat_str, flat_int, flat_lst, flat_bl, flat_non, wipeD, Dw.wpC, ixD, p3]
    cases c : memE S3 (.tup (.str x :: r)) with
    | true =>
      have c' : (S3.any fun z => eqD z (.str x)) = true := c
      simp only [c] at h'
      simp [Dw.wpT, wpE, wpA, wpI, wpO, wpSs, Dw.wpS, res, lookD, cmpR, ifD, truthD, backQ, backX, Dw.start, isiR, isTys, isTy, notR, bltR, lenOf, seqOf, okEq, okIn, plainD, plainDs, deepD, deepDs, eq_ss, eq_tt, eq_ll, eqDs, idxR, setDs, Dw.inR, slcV, newL, sameC, mthR, rcvOk, lstAt, resM, tgT, tgTs, Dw.augR, Dw.intD, updM_same, seqI, resI, binR, negR, anyM, flat_tup, flat_str, flat_int, flat_lst, flat_bl, flat_non, c']
      exact h'
    | false =>
      have c' : (S3.any fun z => eqD z (.str x)) = false := c
      simp only [c] at h'
      simp [Dw.wpT, wpE, wpA, wpI, wpO, wpSs, Dw.wpS, res, lookD, cmpR, ifD, truthD, backQ, backX, Dw.start, isiR, isTys, isTy, notR, bltR, lenOf, seqOf, okEq, okIn, plainD, plainDs, deepD, deepDs, eq_ss, eq_tt, eq_ll, eqDs, idxR, setDs, Dw.inR, slcV, newL, sameC, mthR, rcvOk, lstAt, resM, tgT, tgTs, Dw.augR, Dw.intD, updM_same, seqI, resI, binR, negR, anyM, flat_tup, flat_str, flat_int, flat_lst, flat_bl, flat_non, c']
      exact h'
  rw [List.nil_append]
  try simp [Dw.wpT, wpE, wpA, wpI, wpO, wpSs, Dw.wpS, res, lookD, cmpR, ifD, truthD, backQ, backX, Dw.start, isiR, isTys, isTy, notR, bltR, lenOf, seqOf, okEq, okIn, plainD, plainDs, deepD, deepDs, eq_ss, eq_tt, eq_ll, eqDs, idxR, setDs, Dw.inR, slcV, newL, sameC, mthR, rcvOk, lstAt, resM, tgT, tgTs, Dw.augR, Dw.intD, updM_same, seqI, resI, binR, negR, anyM, flat_tup, flat_str, flat_int, flat_lst, flat_bl, flat_non]
  refine lc_keep (p := memN S2) ?_ _ _ (fun e he R N h' => ?_) ?_
  · trivial
  · obtain ⟨x, rfl⟩ := names_text h.po e he
    simp [Dw.wpT, wpE, wpA, wpI, wpO, wpSs, Dw.wpS, res, lookD, cmpR, ifD, truthD, backQ, backX, Dw.start, isiR, isTys, isTy, notR, bltR, lenOf, seqOf, okEq, okIn, plainD, plainDs, deepD, deepDs, eq_ss, eq_tt, eq_ll, eqDs, idxR, setDs, Dw.inR, slcV, newL, sameC, mthR, rcvOk, lstAt, resM, tgT, tgTs, Dw.augR, Dw.intD, updM_same, seqI, resI, binR, negR, anyM, flat_tup, flat_str, flat_int, flat_lst, flat_bl, flat_non, wipeD, Dw.wpC, ixD, p2]
    cases c : memN S2 (.str x) with
    | true =>
      have c' : (S2.any fun z => eqD z (.str x)) = true := c
      simp only [c] at h'
      simp [Dw.wpT, wpE, wpA, wpI, wpO, wpSs, Dw.wpS, res, lookD, cmpR, ifD, truthD, backQ, backX, Dw.start, isiR, isTys, isTy, notR, bltR, lenOf, seqOf, okEq, okIn, plainD, plainDs, deepD, deepDs, eq_ss, eq_tt, eq_ll, eqDs, idxR, setDs, Dw.inR, slcV, newL, sameC, mthR, rcvOk, lstAt, resM, tgT, tgTs, Dw.augR, Dw.intD, updM_same, seqI, resI, binR, negR, anyM, flat_tup, flat_str, flat_int, flat_lst, flat_bl, flat_non, c']
      exact h'
    | false =>
      have c' : (S2.any fun z => eqD z (.str x)) = false := c
      simp only [c] at h'
      simp [Dw.wpT, wpE, wpA, wpI, wpO, wpSs, Dw.wpS, res, lookD, cmpR, ifD, truthD, backQ, backX, Dw.start, isiR, isTys, isTy, notR, bltR, lenOf, seqOf, okEq, okIn, plainD, plainDs, deepD, deepDs, eq_ss, eq_tt, eq_ll, eqDs, idxR, setDs, Dw.inR, slcV, newL, sameC, mthR, rcvOk, lstAt, resM, tgT, tgTs, Dw.augR, Dw.intD, updM_same, seqI, resI, binR, negR, anyM, flat_tup, flat_str, flat_int, flat_lst, flat_bl, flat_non, c']
      exact h'
  rw [List.nil_append]
  try simp [Dw.wpT, wpE, wpA, wpI, wpO, wpSs, Dw.wpS, res, lookD, cmpR, ifD, truthD, backQ, backX, Dw.start, isiR, isTys, isTy, notR, bltR, lenOf, seqOf, okEq, okIn, plainD, plainDs, deepD, deepDs, eq_ss, eq_tt, eq_ll, eqDs, idxR, setDs, Dw.inR, slcV, newL, sameC, mthR, rcvOk, lstAt, resM, tgT, tgTs, Dw.augR, Dw.intD, updM_same, seqI, resI, binR, negR, anyM, flat_tup, flat_str, flat_int, flat_lst, flat_bl, flat_non]
  exact hQ
theorem face_sub {es os vs es' os' vs' : List D} (h : FaceOk es os vs) (h1 : es'.Sublist es) (h2 : os'.Sublist os) (h3 : vs'.Sublist vs) : FaceOk es' os' vs' :=
  ⟨fun e he => h.pe e (h1.subset he), List.Pairwise.sublist (h1.map firstD) h.ue, Nat.le_trans h1.length_le h.le, ⟨fun l hl => h.po.1 l (h2.subset hl), List.Pairwise.sublist h2 h.po.2.1, Nat.le_trans h2.length_le h.po.2.2⟩, fun e he => h.pv e (h3.subset he), List.Pairwise.sublist (h3.map firstD) h.uv, Nat.le_trans h3.length_le h.lv⟩
/-! ### the law's turn -/
def lb : List S := match f_law.body with
    | [_, .for_ _ _ b, _] => b
    | _ => []
def r1 : List S := lb.drop 1
def r2 : List S := lb.drop 2
def r3 : List S := lb.drop 3
def r4 : List S := lb.drop 4
def r5 : List S := lb.drop 5
def r6 : List S := lb.drop 6
def s0 : S := lb.getD 0 .pass
def s1 : S := lb.getD 1 .pass
def s2 : S := lb.getD 2 .pass
def s3 : S := lb.getD 3 .pass
def s4 : S := lb.getD 4 .pass
def s5 : S := lb.getD 5 .pass
def s6 : S := lb.getD 6 .pass
def vb2 : List S := match s2 with
    | .for_ _ _ b => b
    | _ => []
theorem value_at {k : Nat} (hk : 39 ≤ k) {N : DS → DM → Prop} {E : DEnds} {x d v : D} {e2 e3 e5 e6 e7 e8 e9 e10 : Option D} (hw : Wide v) (hN : N [x, d, e2, e3, some v, e5, e6, e7, e8, e9, e10] M) :
    wpSs (callW pg k) vb2 { E with nx := N, ct := N, bk := E.nx } [x, d, e2, e3, some v, e5, e6, e7, e8, e9, e10] M := by
  simp [Dw.wpT, wpE, wpA, wpI, wpO, wpSs, Dw.wpS, res, lookD, cmpR, ifD, truthD, backQ, backX, Dw.start, isiR, isTys, isTy, notR, bltR, lenOf, seqOf, okEq, okIn, plainD, plainDs, deepD, deepDs, eq_ss, eq_tt, eq_ll, eqDs, idxR, setDs, Dw.inR, slcV, newL, sameC, mthR, rcvOk, lstAt, resM, tgT, tgTs, Dw.augR, Dw.intD, updM_same, seqI, resI, binR, negR, anyM, flat_tup, flat_str, flat_int, flat_lst, flat_bl, flat_non, vb2, s2, lb, f_law]
  refine face_any (by omega) hw ?_
  try simp [Dw.wpT, wpE, wpA, wpI, wpO, wpSs, Dw.wpS, res, lookD, cmpR, ifD, truthD, backQ, backX, Dw.start, isiR, isTys, isTy, notR, bltR, lenOf, seqOf, okEq, okIn, plainD, plainDs, deepD, deepDs, eq_ss, eq_tt, eq_ll, eqDs, idxR, setDs, Dw.inR, slcV, newL, sameC, mthR, rcvOk, lstAt, resM, tgT, tgTs, Dw.augR, Dw.intD, updM_same, seqI, resI, binR, negR, anyM, flat_tup, flat_str, flat_int, flat_lst, flat_bl, flat_non]
  refine facel_any (by omega) hw ?_
  try simp [Dw.wpT, wpE, wpA, wpI, wpO, wpSs, Dw.wpS, res, lookD, cmpR, ifD, truthD, backQ, backX, Dw.start, isiR, isTys, isTy, notR, bltR, lenOf, seqOf, okEq, okIn, plainD, plainDs, deepD, deepDs, eq_ss, eq_tt, eq_ll, eqDs, idxR, setDs, Dw.inR, slcV, newL, sameC, mthR, rcvOk, lstAt, resM, tgT, tgTs, Dw.augR, Dw.intD, updM_same, seqI, resI, binR, negR, anyM, flat_tup, flat_str, flat_int, flat_lst, flat_bl, flat_non]
  refine same_refl BB (.bl (faceB v)) (by simp only [deepD]; omega) rfl ?_
  try simp [Dw.wpT, wpE, wpA, wpI, wpO, wpSs, Dw.wpS, res, lookD, cmpR, ifD, truthD, backQ, backX, Dw.start, isiR, isTys, isTy, notR, bltR, lenOf, seqOf, okEq, okIn, plainD, plainDs, deepD, deepDs, eq_ss, eq_tt, eq_ll, eqDs, idxR, setDs, Dw.inR, slcV, newL, sameC, mthR, rcvOk, lstAt, resM, tgT, tgTs, Dw.augR, Dw.intD, updM_same, seqI, resI, binR, negR, anyM, flat_tup, flat_str, flat_int, flat_lst, flat_bl, flat_non]
  exact hN
theorem value_loop {k : Nat} (hk : 39 ≤ k) {E : DEnds} {x d : D} {e2 e3 e5 e6 e7 e8 e9 e10 : Option D} : ∀ (ws : List D) (e4 : Option D), (∀ v ∈ ws, Wide v) → (∀ e4, E.nx [some x, some d, e2, e3, e4, e5, e6, e7, e8, e9, e10] M) → forTurns (tgT (.var 4)) (wpSs (callW pg k) vb2) anyM E ws [some x, some d, e2, e3, e4, e5, e6, e7, e8, e9, e10] M
  | [], e4, _, h => ⟨trivial, h _⟩
  | w :: ws, e4, hw, h => by
    refine for_cons trivial fun N hN => ?_
    show wpSs (callW pg k) vb2 _ [some x, some d, e2, e3, some w, e5, e6, e7, e8, e9, e10] M
    exact value_at hk (hw w (by simp)) (hN _ _ (value_loop hk ws _ (fun v hv => hw v (by simp [hv])) h))
theorem turn_at {k : Nat} (hk : 39 ≤ k) {N : DS → DM → Prop} {E : DEnds} {x d : D} {e2 e3 e4 e5 e6 e7 e8 e9 e10 : Option D} {M : DM} (hD : Deal M d) (hN : ∀ M' e3 e4 e5 e6 e7 e8 e9 e10, Deal M' d → N [some x, some d, e2, e3, e4, e5, e6, e7, e8, e9, e10] M') :
    wpSs (callW pg k) lb { E with nx := N, ct := N, bk := E.nx } [some x, some d, e2, e3, e4, e5, e6, e7, e8, e9, e10] M := by
  show wpSs (callW pg k) (s0 :: r1) _ [some x, some d, e2, e3, e4, e5, e6, e7, e8, e9, e10] M
  simp [Dw.wpT, wpE, wpA, wpI, wpO, wpSs, Dw.wpS, res, lookD, cmpR, ifD, truthD, backQ, backX, Dw.start, isiR, isTys, isTy, notR, bltR, lenOf, seqOf, okEq, okIn, plainD, plainDs, deepD, deepDs, eq_ss, eq_tt, eq_ll, eqDs, idxR, setDs, Dw.inR, slcV, newL, sameC, mthR, rcvOk, lstAt, resM, tgT, tgTs, Dw.augR, Dw.intD, updM_same, seqI, resI, binR, negR, anyM, flat_tup, flat_str, flat_int, flat_lst, flat_bl, flat_non, s0, lb, f_law]
  refine name_draw BB (by omega) hD fun nm M1 hx g1 => ?_
  refine aface_draw (by omega) hx g1 fun es os vs M2 fo g2 => ?_
  obtain ⟨fb, fw, fd⟩ := face_ok hx fo
  show wpSs (callW pg k) (s1 :: r2) _ [some x, some d, e2, some (.tup [.str nm, .tup es, .tup os, .tup vs]), e4, e5, e6, e7, e8, e9, e10] M2
  simp [Dw.wpT, wpE, wpA, wpI, wpO, wpSs, Dw.wpS, res, lookD, cmpR, ifD, truthD, backQ, backX, Dw.start, isiR, isTys, isTy, notR, bltR, lenOf, seqOf, okEq, okIn, plainD, plainDs, deepD, deepDs, eq_ss, eq_tt, eq_ll, eqDs, idxR, setDs, Dw.inR, slcV, newL, sameC, mthR, rcvOk, lstAt, resM, tgT, tgTs, Dw.augR, Dw.intD, updM_same, seqI, resI, binR, negR, anyM, flat_tup, flat_str, flat_int, flat_lst, flat_bl, flat_non, s1, lb, f_law]
  refine face_any (by omega) fw ?_
  rw [fb]
  refine same_refl BB (.bl true) (by simp only [deepD]; omega) rfl ?_
  try simp [Dw.wpT, wpE, wpA, wpI, wpO, wpSs, Dw.wpS, res, lookD, cmpR, ifD, truthD, backQ, backX, Dw.start, isiR, isTys, isTy, notR, bltR, lenOf, seqOf, okEq, okIn, plainD, plainDs, deepD, deepDs, eq_ss, eq_tt, eq_ll, eqDs, idxR, setDs, Dw.inR, slcV, newL, sameC, mthR, rcvOk, lstAt, resM, tgT, tgTs, Dw.augR, Dw.intD, updM_same, seqI, resI, binR, negR, anyM, flat_tup, flat_str, flat_int, flat_lst, flat_bl, flat_non]
  show wpSs (callW pg k) (s2 :: r3) _ [some x, some d, e2, some (.tup [.str nm, .tup es, .tup os, .tup vs]), e4, e5, e6, e7, e8, e9, e10] M2
  refine And.intro ⟨by decide, by decide⟩ ?_
  refine lc_all (P := Wide) (J := fun M => Deal M d) (fun _ _ => trivial) (fun e M R hJ hR => ?_) _ _ _ g2 (by simp) fun ws M3 hw _ g3 => ?_
  · simp [Dw.wpT, wpE, wpA, wpI, wpO, wpSs, Dw.wpS, res, lookD, cmpR, ifD, truthD, backQ, backX, Dw.start, isiR, isTys, isTy, notR, bltR, lenOf, seqOf, okEq, okIn, plainD, plainDs, deepD, deepDs, eq_ss, eq_tt, eq_ll, eqDs, idxR, setDs, Dw.inR, slcV, newL, sameC, mthR, rcvOk, lstAt, resM, tgT, tgTs, Dw.augR, Dw.intD, updM_same, seqI, resI, binR, negR, anyM, flat_tup, flat_str, flat_int, flat_lst, flat_bl, flat_non, wipeD]
    exact bent_draw (by omega) hx fo hJ hR
  simp only [newL, Bool.false_eq_true, if_false]
  refine And.intro trivial ?_
  refine value_loop hk ws _ hw fun e4 => ?_
  show wpSs (callW pg k) (s3 :: r4) _ [some x, some d, e2, some (.tup [.str nm, .tup es, .tup os, .tup vs]), e4, e5, e6, e7, e8, e9, e10] M3
  simp [Dw.wpT, wpE, wpA, wpI, wpO, wpSs, Dw.wpS, res, lookD, cmpR, ifD, truthD, backQ, backX, Dw.start, isiR, isTys, isTy, notR, bltR, lenOf, seqOf, okEq, okIn, plainD, plainDs, deepD, deepDs, eq_ss, eq_tt, eq_ll, eqDs, idxR, setDs, Dw.inR, slcV, newL, sameC, mthR, rcvOk, lstAt, resM, tgT, tgTs, Dw.augR, Dw.intD, updM_same, seqI, resI, binR, negR, anyM, flat_tup, flat_str, flat_int, flat_lst, flat_bl, flat_non, s3, lb, f_law, ixD]
  refine lc_some (f := firstD) (P := EffOk) (J := fun M => Deal M d) (fun _ _ => trivial) (fun e M R N' he hJ h1 h0 => ?_) _ _ _ fo.pe g3 fun us1 M4 hu1 g4 => ?_
  · obtain ⟨y, r, rfl, _⟩ := eff_name he.1
    simp [Dw.wpT, wpE, wpA, wpI, wpO, wpSs, Dw.wpS, res, lookD, cmpR, ifD, truthD, backQ, backX, Dw.start, isiR, isTys, isTy, notR, bltR, lenOf, seqOf, okEq, okIn, plainD, plainDs, deepD, deepDs, eq_ss, eq_tt, eq_ll, eqDs, idxR, setDs, Dw.inR, slcV, newL, sameC, mthR, rcvOk, lstAt, resM, tgT, tgTs, Dw.augR, Dw.intD, updM_same, seqI, resI, binR, negR, anyM, flat_tup, flat_str, flat_int, flat_lst, flat_bl, flat_non, wipeD, Dw.wpC]
    refine any_at BB (by omega) hJ (by omega) (by omega) fun i M' _ _ g => ?_
    simp [Dw.wpT, wpE, wpA, wpI, wpO, wpSs, Dw.wpS, res, lookD, cmpR, ifD, truthD, backQ, backX, Dw.start, isiR, isTys, isTy, notR, bltR, lenOf, seqOf, okEq, okIn, plainD, plainDs, deepD, deepDs, eq_ss, eq_tt, eq_ll, eqDs, idxR, setDs, Dw.inR, slcV, newL, sameC, mthR, rcvOk, lstAt, resM, tgT, tgTs, Dw.augR, Dw.intD, updM_same, seqI, resI, binR, negR, anyM, flat_tup, flat_str, flat_int, flat_lst, flat_bl, flat_non, eq_ii, ixD]
    cases hi : i == 0 with
    | true =>
      try simp [Dw.wpT, wpE, wpA, wpI, wpO, wpSs, Dw.wpS, res, lookD, cmpR, ifD, truthD, backQ, backX, Dw.start, isiR, isTys, isTy, notR, bltR, lenOf, seqOf, okEq, okIn, plainD, plainDs, deepD, deepDs, eq_ss, eq_tt, eq_ll, eqDs, idxR, setDs, Dw.inR, slcV, newL, sameC, mthR, rcvOk, lstAt, resM, tgT, tgTs, Dw.augR, Dw.intD, updM_same, seqI, resI, binR, negR, anyM, flat_tup, flat_str, flat_int, flat_lst, flat_bl, flat_non]
      exact h1 M' g
    | false =>
      try simp [Dw.wpT, wpE, wpA, wpI, wpO, wpSs, Dw.wpS, res, lookD, cmpR, ifD, truthD, backQ, backX, Dw.start, isiR, isTys, isTy, notR, bltR, lenOf, seqOf, okEq, okIn, plainD, plainDs, deepD, deepDs, eq_ss, eq_tt, eq_ll, eqDs, idxR, setDs, Dw.inR, slcV, newL, sameC, mthR, rcvOk, lstAt, resM, tgT, tgTs, Dw.augR, Dw.intD, updM_same, seqI, resI, binR, negR, anyM, flat_tup, flat_str, flat_int, flat_lst, flat_bl, flat_non]
      exact h0 M' g
  rw [List.nil_append]
  have t1 : ∀ l ∈ us1.map firstD ++ [.str w_zz9], TextD l := fun l hl => by
    rcases List.mem_append.mp hl with h | h
    · exact effs_text (fun e he => fo.pe e (hu1.subset he)) l h
    · rw [List.mem_singleton.mp h]
      exact ⟨_, rfl⟩
  have ls1 : (us1.map firstD).length ≤ 16777215 := by
    have := hu1.length_le
    have := fo.le
    rw [List.length_map]
    omega
  generalize us1.map firstD = S0 at t1 ls1
  simp [Dw.wpT, wpE, wpA, wpI, wpO, wpSs, Dw.wpS, res, lookD, cmpR, ifD, truthD, backQ, backX, Dw.start, isiR, isTys, isTy, notR, bltR, lenOf, seqOf, okEq, okIn, plainD, plainDs, deepD, deepDs, eq_ss, eq_tt, eq_ll, eqDs, idxR, setDs, Dw.inR, slcV, newL, sameC, mthR, rcvOk, lstAt, resM, tgT, tgTs, Dw.augR, Dw.intD, updM_same, seqI, resI, binR, negR, anyM, flat_tup, flat_str, flat_int, flat_lst, flat_bl, flat_non, sizeLine]
  refine And.intro ls1 ?_
  generalize S0 ++ [.str w_zz9] = S1 at t1
  show wpSs (callW pg k) (s4 :: r5) _ [some x, some d, e2, some (.tup [.str nm, .tup es, .tup os, .tup vs]), e4, some (.tup S1), e6, e7, e8, e9, e10] M4
  simp [Dw.wpT, wpE, wpA, wpI, wpO, wpSs, Dw.wpS, res, lookD, cmpR, ifD, truthD, backQ, backX, Dw.start, isiR, isTys, isTy, notR, bltR, lenOf, seqOf, okEq, okIn, plainD, plainDs, deepD, deepDs, eq_ss, eq_tt, eq_ll, eqDs, idxR, setDs, Dw.inR, slcV, newL, sameC, mthR, rcvOk, lstAt, resM, tgT, tgTs, Dw.augR, Dw.intD, updM_same, seqI, resI, binR, negR, anyM, flat_tup, flat_str, flat_int, flat_lst, flat_bl, flat_non, s4, lb, f_law, ixD]
  refine lc_some (f := id) (P := TextD) (J := fun M => Deal M d) (fun _ _ => trivial) (fun e M R N' he hJ h1 h0 => ?_) _ _ _ (names_text fo.po) g4 fun us2 M5 hu2 g5 => ?_
  · obtain ⟨y, rfl⟩ := he
    simp [Dw.wpT, wpE, wpA, wpI, wpO, wpSs, Dw.wpS, res, lookD, cmpR, ifD, truthD, backQ, backX, Dw.start, isiR, isTys, isTy, notR, bltR, lenOf, seqOf, okEq, okIn, plainD, plainDs, deepD, deepDs, eq_ss, eq_tt, eq_ll, eqDs, idxR, setDs, Dw.inR, slcV, newL, sameC, mthR, rcvOk, lstAt, resM, tgT, tgTs, Dw.augR, Dw.intD, updM_same, seqI, resI, binR, negR, anyM, flat_tup, flat_str, flat_int, flat_lst, flat_bl, flat_non, wipeD, Dw.wpC]
    refine any_at BB (by omega) hJ (by omega) (by omega) fun i M' _ _ g => ?_
    simp [Dw.wpT, wpE, wpA, wpI, wpO, wpSs, Dw.wpS, res, lookD, cmpR, ifD, truthD, backQ, backX, Dw.start, isiR, isTys, isTy, notR, bltR, lenOf, seqOf, okEq, okIn, plainD, plainDs, deepD, deepDs, eq_ss, eq_tt, eq_ll, eqDs, idxR, setDs, Dw.inR, slcV, newL, sameC, mthR, rcvOk, lstAt, resM, tgT, tgTs, Dw.augR, Dw.intD, updM_same, seqI, resI, binR, negR, anyM, flat_tup, flat_str, flat_int, flat_lst, flat_bl, flat_non, eq_ii, ixD]
    cases hi : i == 0 with
    | true =>
      try simp [Dw.wpT, wpE, wpA, wpI, wpO, wpSs, Dw.wpS, res, lookD, cmpR, ifD, truthD, backQ, backX, Dw.start, isiR, isTys, isTy, notR, bltR, lenOf, seqOf, okEq, okIn, plainD, plainDs, deepD, deepDs, eq_ss, eq_tt, eq_ll, eqDs, idxR, setDs, Dw.inR, slcV, newL, sameC, mthR, rcvOk, lstAt, resM, tgT, tgTs, Dw.augR, Dw.intD, updM_same, seqI, resI, binR, negR, anyM, flat_tup, flat_str, flat_int, flat_lst, flat_bl, flat_non]
      exact h1 M' g
    | false =>
      try simp [Dw.wpT, wpE, wpA, wpI, wpO, wpSs, Dw.wpS, res, lookD, cmpR, ifD, truthD, backQ, backX, Dw.start, isiR, isTys, isTy, notR, bltR, lenOf, seqOf, okEq, okIn, plainD, plainDs, deepD, deepDs, eq_ss, eq_tt, eq_ll, eqDs, idxR, setDs, Dw.inR, slcV, newL, sameC, mthR, rcvOk, lstAt, resM, tgT, tgTs, Dw.augR, Dw.intD, updM_same, seqI, resI, binR, negR, anyM, flat_tup, flat_str, flat_int, flat_lst, flat_bl, flat_non]
      exact h0 M' g
  rw [List.nil_append, List.map_id]
  try simp [Dw.wpT, wpE, wpA, wpI, wpO, wpSs, Dw.wpS, res, lookD, cmpR, ifD, truthD, backQ, backX, Dw.start, isiR, isTys, isTy, notR, bltR, lenOf, seqOf, okEq, okIn, plainD, plainDs, deepD, deepDs, eq_ss, eq_tt, eq_ll, eqDs, idxR, setDs, Dw.inR, slcV, newL, sameC, mthR, rcvOk, lstAt, resM, tgT, tgTs, Dw.augR, Dw.intD, updM_same, seqI, resI, binR, negR, anyM, flat_tup, flat_str, flat_int, flat_lst, flat_bl, flat_non]
  refine lc_some (f := firstD) (P := ValOk) (J := fun M => Deal M d) (fun _ _ => trivial) (fun e M R N' he hJ h1 h0 => ?_) _ _ _ fo.pv g5 fun us3 M6 hu3 g6 => ?_
  · obtain ⟨y, r, rfl, _⟩ := val_name he.1
    simp [Dw.wpT, wpE, wpA, wpI, wpO, wpSs, Dw.wpS, res, lookD, cmpR, ifD, truthD, backQ, backX, Dw.start, isiR, isTys, isTy, notR, bltR, lenOf, seqOf, okEq, okIn, plainD, plainDs, deepD, deepDs, eq_ss, eq_tt, eq_ll, eqDs, idxR, setDs, Dw.inR, slcV, newL, sameC, mthR, rcvOk, lstAt, resM, tgT, tgTs, Dw.augR, Dw.intD, updM_same, seqI, resI, binR, negR, anyM, flat_tup, flat_str, flat_int, flat_lst, flat_bl, flat_non, wipeD, Dw.wpC]
    refine any_at BB (by omega) hJ (by omega) (by omega) fun i M' _ _ g => ?_
    simp [Dw.wpT, wpE, wpA, wpI, wpO, wpSs, Dw.wpS, res, lookD, cmpR, ifD, truthD, backQ, backX, Dw.start, isiR, isTys, isTy, notR, bltR, lenOf, seqOf, okEq, okIn, plainD, plainDs, deepD, deepDs, eq_ss, eq_tt, eq_ll, eqDs, idxR, setDs, Dw.inR, slcV, newL, sameC, mthR, rcvOk, lstAt, resM, tgT, tgTs, Dw.augR, Dw.intD, updM_same, seqI, resI, binR, negR, anyM, flat_tup, flat_str, flat_int, flat_lst, flat_bl, flat_non, eq_ii, ixD]
    cases hi : i == 0 with
    | true =>
      try simp [Dw.wpT, wpE, wpA, wpI, wpO, wpSs, Dw.wpS, res, lookD, cmpR, ifD, truthD, backQ, backX, Dw.start, isiR, isTys, isTy, notR, bltR, lenOf, seqOf, okEq, okIn, plainD, plainDs, deepD, deepDs, eq_ss, eq_tt, eq_ll, eqDs, idxR, setDs, Dw.inR, slcV, newL, sameC, mthR, rcvOk, lstAt, resM, tgT, tgTs, Dw.augR, Dw.intD, updM_same, seqI, resI, binR, negR, anyM, flat_tup, flat_str, flat_int, flat_lst, flat_bl, flat_non]
      exact h1 M' g
    | false =>
      try simp [Dw.wpT, wpE, wpA, wpI, wpO, wpSs, Dw.wpS, res, lookD, cmpR, ifD, truthD, backQ, backX, Dw.start, isiR, isTys, isTy, notR, bltR, lenOf, seqOf, okEq, okIn, plainD, plainDs, deepD, deepDs, eq_ss, eq_tt, eq_ll, eqDs, idxR, setDs, Dw.inR, slcV, newL, sameC, mthR, rcvOk, lstAt, resM, tgT, tgTs, Dw.augR, Dw.intD, updM_same, seqI, resI, binR, negR, anyM, flat_tup, flat_str, flat_int, flat_lst, flat_bl, flat_non]
      exact h0 M' g
  rw [List.nil_append]
  have t2 : ∀ l ∈ us2, TextD l := fun l hl => names_text fo.po l (hu2.subset hl)
  have t3 : ∀ l ∈ us3.map firstD, TextD l := vals_text fun e he => fo.pv e (hu3.subset he)
  have hf := sub_filter hu2 (names_text fo.po) fo.po.2.1
  generalize us3.map firstD = S3 at t3
  try simp [Dw.wpT, wpE, wpA, wpI, wpO, wpSs, Dw.wpS, res, lookD, cmpR, ifD, truthD, backQ, backX, Dw.start, isiR, isTys, isTy, notR, bltR, lenOf, seqOf, okEq, okIn, plainD, plainDs, deepD, deepDs, eq_ss, eq_tt, eq_ll, eqDs, idxR, setDs, Dw.inR, slcV, newL, sameC, mthR, rcvOk, lstAt, resM, tgT, tgTs, Dw.augR, Dw.intD, updM_same, seqI, resI, binR, negR, anyM, flat_tup, flat_str, flat_int, flat_lst, flat_bl, flat_non]
  show wpSs (callW pg k) (s5 :: r6) _ [some x, some d, e2, some (.tup [.str nm, .tup es, .tup os, .tup vs]), e4, some (.tup S1), e6, some (.tup us2), some (.tup S3), e9, e10] M6
  have p1 := plain_texts t1
  have p3 := plain_texts t3
  simp [Dw.wpT, wpE, wpA, wpI, wpO, wpSs, Dw.wpS, res, lookD, cmpR, ifD, truthD, backQ, backX, Dw.start, isiR, isTys, isTy, notR, bltR, lenOf, seqOf, okEq, okIn, plainD, plainDs, deepD, deepDs, eq_ss, eq_tt, eq_ll, eqDs, idxR, setDs, Dw.inR, slcV, newL, sameC, mthR, rcvOk, lstAt, resM, tgT, tgTs, Dw.augR, Dw.intD, updM_same, seqI, resI, binR, negR, anyM, flat_tup, flat_str, flat_int, flat_lst, flat_bl, flat_non, s5, lb, f_law, ixD]
  refine lc_keep (p := memE S1) ?_ _ _ (fun e he R N h' => ?_) ?_
  · trivial
  · obtain ⟨x, r, rfl, _⟩ := eff_name (fo.pe e he).1
    simp [Dw.wpT, wpE, wpA, wpI, wpO, wpSs, Dw.wpS, res, lookD, cmpR, ifD, truthD, backQ, backX, Dw.start, isiR, isTys, isTy, notR, bltR, lenOf, seqOf, okEq, okIn, plainD, plainDs, deepD, deepDs, eq_ss, eq_tt, eq_ll, eqDs, idxR, setDs, Dw.inR, slcV, newL, sameC, mthR, rcvOk, lstAt, resM, tgT, tgTs, Dw.augR, Dw.intD, updM_same, seqI, resI, binR, negR, anyM, flat_tup, flat_str, flat_int, flat_lst, flat_bl, flat_non, wipeD, Dw.wpC, ixD, p1]
    cases c : memE S1 (.tup (.str x :: r)) with
    | true =>
      have c' : (S1.any fun z => eqD z (.str x)) = true := c
      simp only [c] at h'
      simp [Dw.wpT, wpE, wpA, wpI, wpO, wpSs, Dw.wpS, res, lookD, cmpR, ifD, truthD, backQ, backX, Dw.start, isiR, isTys, isTy, notR, bltR, lenOf, seqOf, okEq, okIn, plainD, plainDs, deepD, deepDs, eq_ss, eq_tt, eq_ll, eqDs, idxR, setDs, Dw.inR, slcV, newL, sameC, mthR, rcvOk, lstAt, resM, tgT, tgTs, Dw.augR, Dw.intD, updM_same, seqI, resI, binR, negR, anyM, flat_tup, flat_str, flat_int, flat_lst, flat_bl, flat_non, c']
      exact h'
    | false =>
      have c' : (S1.any fun z => eqD z (.str x)) = false := c
      simp only [c] at h'
      simp [Dw.wpT, wpE, wpA, wpI, wpO, wpSs, Dw.wpS, res, lookD, cmpR, ifD, truthD, backQ, backX, Dw.start, isiR, isTys, isTy, notR, bltR, lenOf, seqOf, okEq, okIn, plainD, plainDs, deepD, deepDs, eq_ss, eq_tt, eq_ll, eqDs, idxR, setDs, Dw.inR, slcV, newL, sameC, mthR, rcvOk, lstAt, resM, tgT, tgTs, Dw.augR, Dw.intD, updM_same, seqI, resI, binR, negR, anyM, flat_tup, flat_str, flat_int, flat_lst, flat_bl, flat_non, c']
      exact h'
  rw [List.nil_append]
  try simp [Dw.wpT, wpE, wpA, wpI, wpO, wpSs, Dw.wpS, res, lookD, cmpR, ifD, truthD, backQ, backX, Dw.start, isiR, isTys, isTy, notR, bltR, lenOf, seqOf, okEq, okIn, plainD, plainDs, deepD, deepDs, eq_ss, eq_tt, eq_ll, eqDs, idxR, setDs, Dw.inR, slcV, newL, sameC, mthR, rcvOk, lstAt, resM, tgT, tgTs, Dw.augR, Dw.intD, updM_same, seqI, resI, binR, negR, anyM, flat_tup, flat_str, flat_int, flat_lst, flat_bl, flat_non]
  refine lc_keep (p := memE S3) ?_ _ _ (fun e he R N h' => ?_) ?_
  · trivial
  · obtain ⟨x, r, rfl, _⟩ := val_name (fo.pv e he).1
    simp [Dw.wpT, wpE, wpA, wpI, wpO, wpSs, Dw.wpS, res, lookD, cmpR, ifD, truthD, backQ, backX, Dw.start, isiR, isTys, isTy, notR, bltR, lenOf, seqOf, okEq, okIn, plainD, plainDs, deepD, deepDs, eq_ss, eq_tt, eq_ll, eqDs, idxR, setDs, Dw.inR, slcV, newL, sameC, mthR, rcvOk, lstAt, resM, tgT, tgTs, Dw.augR, Dw.intD, updM_same, seqI, resI, binR, negR, anyM, flat_tup, flat_str, flat_int, flat_lst, flat_bl, flat_non, wipeD, Dw.wpC, ixD, p3]
    cases c : memE S3 (.tup (.str x :: r)) with
    | true =>
      have c' : (S3.any fun z => eqD z (.str x)) = true := c
      simp only [c] at h'
      simp [Dw.wpT, wpE, wpA, wpI, wpO, wpSs, Dw.wpS, res, lookD, cmpR, ifD, truthD, backQ, backX, Dw.start, isiR, isTys, isTy, notR, bltR, lenOf, seqOf, okEq, okIn, plainD, plainDs, deepD, deepDs, eq_ss, eq_tt, eq_ll, eqDs, idxR, setDs, Dw.inR, slcV, newL, sameC, mthR, rcvOk, lstAt, resM, tgT, tgTs, Dw.augR, Dw.intD, updM_same, seqI, resI, binR, negR, anyM, flat_tup, flat_str, flat_int, flat_lst, flat_bl, flat_non, c']
      exact h'
    | false =>
      have c' : (S3.any fun z => eqD z (.str x)) = false := c
      simp only [c] at h'
      simp [Dw.wpT, wpE, wpA, wpI, wpO, wpSs, Dw.wpS, res, lookD, cmpR, ifD, truthD, backQ, backX, Dw.start, isiR, isTys, isTy, notR, bltR, lenOf, seqOf, okEq, okIn, plainD, plainDs, deepD, deepDs, eq_ss, eq_tt, eq_ll, eqDs, idxR, setDs, Dw.inR, slcV, newL, sameC, mthR, rcvOk, lstAt, resM, tgT, tgTs, Dw.augR, Dw.intD, updM_same, seqI, resI, binR, negR, anyM, flat_tup, flat_str, flat_int, flat_lst, flat_bl, flat_non, c']
      exact h'
  rw [List.nil_append]
  try simp [Dw.wpT, wpE, wpA, wpI, wpO, wpSs, Dw.wpS, res, lookD, cmpR, ifD, truthD, backQ, backX, Dw.start, isiR, isTys, isTy, notR, bltR, lenOf, seqOf, okEq, okIn, plainD, plainDs, deepD, deepDs, eq_ss, eq_tt, eq_ll, eqDs, idxR, setDs, Dw.inR, slcV, newL, sameC, mthR, rcvOk, lstAt, resM, tgT, tgTs, Dw.augR, Dw.intD, updM_same, seqI, resI, binR, negR, anyM, flat_tup, flat_str, flat_int, flat_lst, flat_bl, flat_non]
  have fo2 := face_sub fo (es' := es.filter (memE S1)) (os' := us2) (vs' := vs.filter (memE S3)) List.filter_sublist hu2 List.filter_sublist
  obtain ⟨fb2, fw2, fd2⟩ := face_ok hx fo2
  show wpSs (callW pg k) [s6] _ [some x, some d, e2, some (.tup [.str nm, .tup es, .tup os, .tup vs]), e4, some (.tup S1), some (.tup [.str nm, .tup (es.filter (memE S1)), .tup us2, .tup (vs.filter (memE S3))]), some (.tup us2), some (.tup S3), e9, e10] M6
  simp [Dw.wpT, wpE, wpA, wpI, wpO, wpSs, Dw.wpS, res, lookD, cmpR, ifD, truthD, backQ, backX, Dw.start, isiR, isTys, isTy, notR, bltR, lenOf, seqOf, okEq, okIn, plainD, plainDs, deepD, deepDs, eq_ss, eq_tt, eq_ll, eqDs, idxR, setDs, Dw.inR, slcV, newL, sameC, mthR, rcvOk, lstAt, resM, tgT, tgTs, Dw.augR, Dw.intD, updM_same, seqI, resI, binR, negR, anyM, flat_tup, flat_str, flat_int, flat_lst, flat_bl, flat_non, s6, lb, f_law]
  refine cut_at (by omega) fo t1 t2 t3 ?_
  rw [hf]
  try simp [Dw.wpT, wpE, wpA, wpI, wpO, wpSs, Dw.wpS, res, lookD, cmpR, ifD, truthD, backQ, backX, Dw.start, isiR, isTys, isTy, notR, bltR, lenOf, seqOf, okEq, okIn, plainD, plainDs, deepD, deepDs, eq_ss, eq_tt, eq_ll, eqDs, idxR, setDs, Dw.inR, slcV, newL, sameC, mthR, rcvOk, lstAt, resM, tgT, tgTs, Dw.augR, Dw.intD, updM_same, seqI, resI, binR, negR, anyM, flat_tup, flat_str, flat_int, flat_lst, flat_bl, flat_non]
  refine face_any (by omega) fw2 ?_
  rw [fb2]
  try simp [Dw.wpT, wpE, wpA, wpI, wpO, wpSs, Dw.wpS, res, lookD, cmpR, ifD, truthD, backQ, backX, Dw.start, isiR, isTys, isTy, notR, bltR, lenOf, seqOf, okEq, okIn, plainD, plainDs, deepD, deepDs, eq_ss, eq_tt, eq_ll, eqDs, idxR, setDs, Dw.inR, slcV, newL, sameC, mthR, rcvOk, lstAt, resM, tgT, tgTs, Dw.augR, Dw.intD, updM_same, seqI, resI, binR, negR, anyM, flat_tup, flat_str, flat_int, flat_lst, flat_bl, flat_non]
  refine same_refl BB (.lst [.tup [.str nm, .tup (es.filter (memE S1)), .tup us2, .tup (vs.filter (memE S3))], .bl true]) ?_ ?_ ?_
  · simp only [deepD, deepDs] at fd2 ⊢
    omega
  · have := fw2.1
    simp only [plainD, plainDs, Bool.and_true] at this ⊢
    exact this
  · try simp [Dw.wpT, wpE, wpA, wpI, wpO, wpSs, Dw.wpS, res, lookD, cmpR, ifD, truthD, backQ, backX, Dw.start, isiR, isTys, isTy, notR, bltR, lenOf, seqOf, okEq, okIn, plainD, plainDs, deepD, deepDs, eq_ss, eq_tt, eq_ll, eqDs, idxR, setDs, Dw.inR, slcV, newL, sameC, mthR, rcvOk, lstAt, resM, tgT, tgTs, Dw.augR, Dw.intD, updM_same, seqI, resI, binR, negR, anyM, flat_tup, flat_str, flat_int, flat_lst, flat_bl, flat_non]
    exact hN _ _ _ _ _ _ _ _ _ g6
theorem law_eq : f_law.body = [.set 1 (.call 14 [.var 0, .lit (.int 4)]), .for_ (.var 2) (.rng1 (.lit (.int 5))) lb, .ret (.lit (.bl true))] := rfl
theorem plain : ∀ ns : List Int, ns.length ≤ 16777216 → ∀ x M, ScrOk x M ns → (callW pg 40).run 32 [x] M (fun _ _ => False) (fun d _ => d = .bl true) := by
  intro ns _ x M hx
  obtain ⟨k, hk, hk39⟩ : ∃ k, 40 = k + 1 ∧ 39 ≤ k := ⟨39, rfl, Nat.le_refl _⟩
  rw [hk, callW_run (f := f_law) rfl]
  refine ⟨rfl, rfl, ?_⟩
  have hx' : (x = .scr (ns.map D.int)) ∨ ∃ a, x = .ref a ∧ M a = some (.lst (ns.map D.int)) := by
    rcases hx with ⟨h, _⟩ | ⟨a, h, rfl⟩
    · exact .inl h
    · exact .inr ⟨a, h, updM_same⟩
  rw [law_eq, show Dw.start f_law [x] = [some x, none, none, none, none, none, none, none, none, none, none] from rfl]
  simp [Dw.wpT, wpE, wpA, wpI, wpO, wpSs, Dw.wpS, res, lookD, cmpR, ifD, truthD, backQ, backX, Dw.start, isiR, isTys, isTy, notR, bltR, lenOf, seqOf, okEq, okIn, plainD, plainDs, deepD, deepDs, eq_ss, eq_tt, eq_ll, eqDs, idxR, setDs, Dw.inR, slcV, newL, sameC, mthR, rcvOk, lstAt, resM, tgT, tgTs, Dw.augR, Dw.intD, updM_same, seqI, resI, binR, negR, anyM, flat_tup, flat_str, flat_int, flat_lst, flat_bl, flat_non, rngI]
  refine draw_at BB (by omega) (by omega) hx' fun d M1 g1 => ?_
  simp [sizeLine]
  refine for_all (P := fun _ => True) (J := fun n δ M => ∃ e2 e3 e4 e5 e6 e7 e8 e9 e10, δ = [some x, some d, e2, e3, e4, e5, e6, e7, e8, e9, e10] ∧ Deal M d) (fun _ _ _ _ => trivial) ?_ ?_ _ (fun _ _ => trivial) _ _ ⟨_, _, _, _, _, _, _, _, _, rfl, g1⟩
  · rintro δ M2 ⟨e2, e3, e4, e5, e6, e7, e8, e9, e10, rfl, g2⟩
    rfl
  · rintro n e δ M3 N _ ⟨e2, e3, e4, e5, e6, e7, e8, e9, e10, rfl, g3⟩ hN
    exact turn_at hk39 g3 (fun M' _ _ _ _ _ _ _ _ g => hN _ _ ⟨_, _, _, _, _, _, _, _, _, rfl, g⟩)
end K04
set_option Elab.async false
set_option linter.all false
set_option maxRecDepth 100000
set_option maxHeartbeats 0
/-! K04H: printed by gen.py: binding, the look, the run of the top. -/
namespace K04
open PySem PySem.Spec PyProof.Rows L2 Dw

theorem b_is_name : BindOk d_is_name where
  pos := fun _ _ _ _ _ _ us hl => match us, hl with
    | [_], _ => rfl
  kw := fun j hj => by cases hj
theorem b_is_label : BindOk d_is_label where
  pos := fun _ _ _ _ _ _ us hl => match us, hl with
    | [_], _ => rfl
  kw := fun j hj => by cases hj
theorem b_are_names : BindOk d_are_names where
  pos := fun _ _ _ _ _ _ us hl => match us, hl with
    | [_], _ => rfl
  kw := fun j hj => by cases hj
theorem b_is_integer : BindOk d_is_integer where
  pos := fun _ _ _ _ _ _ us hl => match us, hl with
    | [_], _ => rfl
  kw := fun j hj => by cases hj
theorem b_is_index : BindOk d_is_index where
  pos := fun _ _ _ _ _ _ us hl => match us, hl with
    | [_, _], _ => rfl
  kw := fun j hj => by cases hj
theorem b_is_row : BindOk d_is_row where
  pos := fun _ _ _ _ _ _ us hl => match us, hl with
    | [_], _ => rfl
  kw := fun j hj => by cases hj
theorem b_inner_types : BindOk d_inner_types where
  pos := fun _ _ _ _ _ _ us hl => match us, hl with
    | [_], _ => rfl
  kw := fun j hj => by cases hj
theorem b_is_type : BindOk d_is_type where
  pos := fun _ _ _ _ _ _ us hl => match us, hl with
    | [_], _ => rfl
  kw := fun j hj => by cases hj
theorem b_variables : BindOk d_variables where
  pos := fun _ _ _ _ _ _ us hl => match us, hl with
    | [_], _ => rfl
  kw := fun j hj => by cases hj
theorem b_is_closed : BindOk d_is_closed where
  pos := fun _ _ _ _ _ _ us hl => match us, hl with
    | [_], _ => rfl
  kw := fun j hj => by cases hj
theorem b_is_scheme : BindOk d_is_scheme where
  pos := fun _ _ _ _ _ _ us hl => match us, hl with
    | [_], _ => rfl
  kw := fun j hj => by cases hj
theorem b_are_effects : BindOk d_are_effects where
  pos := fun _ _ _ _ _ _ us hl => match us, hl with
    | [_], _ => rfl
  kw := fun j hj => by cases hj
theorem b_is_face : BindOk d_is_face where
  pos := fun _ _ _ _ _ _ us hl => match us, hl with
    | [_], _ => rfl
  kw := fun j hj => by
    rcases List.mem_cons.mp hj with rfl | hj
    · exact fun _ _ _ _ _ _ us ws h1 h2 => match us, ws, h1, h2 with
      | [], [_], _, _ => rfl
    cases hj
theorem b_cut_face : BindOk d_cut_face where
  pos := fun _ _ _ _ _ _ us hl => match us, hl with
    | [_, _, _, _], _ => rfl
  kw := fun j hj => by
    rcases List.mem_cons.mp hj with rfl | hj
    · exact fun _ _ _ _ _ _ us ws h1 h2 => match us, ws, h1, h2 with
      | [], [_, _, _, _], _, _ => rfl
    cases hj
theorem b__law_draw : BindOk d__law_draw where
  pos := fun _ _ _ _ _ _ us hl => match us, hl with
    | [_, _], _ => rfl
  kw := fun j hj => by cases hj
theorem b__law_any : BindOk d__law_any where
  pos := fun _ _ _ _ _ _ us hl => match us, hl with
    | [_, _], _ => rfl
  kw := fun j hj => by cases hj
theorem b__law_of : BindOk d__law_of where
  pos := fun _ _ _ _ _ _ us hl => match us, hl with
    | [_, _], _ => rfl
  kw := fun j hj => by cases hj
theorem b__law_same : BindOk d__law_same where
  pos := fun _ _ _ _ _ _ us hl => match us, hl with
    | [_, _], _ => rfl
  kw := fun j hj => by cases hj
theorem b__law_is_name : BindOk d__law_is_name where
  pos := fun _ _ _ _ _ _ us hl => match us, hl with
    | [_], _ => rfl
  kw := fun j hj => by cases hj
theorem b__law_name : BindOk d__law_name where
  pos := fun _ _ _ _ _ _ us hl => match us, hl with
    | [_], _ => rfl
  kw := fun j hj => by cases hj
theorem b__law_labels : BindOk d__law_labels where
  pos := fun _ _ _ _ _ _ us hl => match us, hl with
    | [_, _], _ => rfl
  kw := fun j hj => by cases hj
theorem b__law_a_row : BindOk d__law_a_row where
  pos := fun _ _ _ _ _ _ us hl => match us, hl with
    | [_, _], _ => rfl
  kw := fun j hj => by cases hj
theorem b__law_a_type : BindOk d__law_a_type where
  pos := fun _ _ _ _ _ _ us hl => match us, hl with
    | [_, _, _, _], _ => rfl
  kw := fun j hj => by cases hj
theorem b__law_joined_row : BindOk d__law_joined_row where
  pos := fun _ _ _ _ _ _ us hl => match us, hl with
    | [_, _], _ => rfl
  kw := fun j hj => by cases hj
theorem b__law_put_in : BindOk d__law_put_in where
  pos := fun _ _ _ _ _ _ us hl => match us, hl with
    | [_, _, _], _ => rfl
  kw := fun j hj => by cases hj
theorem b__law_vars : BindOk d__law_vars where
  pos := fun _ _ _ _ _ _ us hl => match us, hl with
    | [_], _ => rfl
  kw := fun j hj => by cases hj
theorem b__law_once : BindOk d__law_once where
  pos := fun _ _ _ _ _ _ us hl => match us, hl with
    | [_], _ => rfl
  kw := fun j hj => by cases hj
theorem b__law_plain : BindOk d__law_plain where
  pos := fun _ _ _ _ _ _ us hl => match us, hl with
    | [_], _ => rfl
  kw := fun j hj => by cases hj
theorem b__law_closed_type : BindOk d__law_closed_type where
  pos := fun _ _ _ _ _ _ us hl => match us, hl with
    | [_], _ => rfl
  kw := fun j hj => by cases hj
theorem b__law_a_face : BindOk d__law_a_face where
  pos := fun _ _ _ _ _ _ us hl => match us, hl with
    | [_, _], _ => rfl
  kw := fun j hj => by cases hj
theorem b__law_is_face : BindOk d__law_is_face where
  pos := fun _ _ _ _ _ _ us hl => match us, hl with
    | [_], _ => rfl
  kw := fun j hj => by cases hj
theorem b__law_bent : BindOk d__law_bent where
  pos := fun _ _ _ _ _ _ us hl => match us, hl with
    | [_, _], _ => rfl
  kw := fun j hj => by cases hj
theorem b_law : BindOk d_law where
  pos := fun _ _ _ _ _ _ us hl => match us, hl with
    | [_], _ => rfl
  kw := fun j hj => by cases hj
theorem hb (i : Nat) (d : DefS) (h : ds[i]? = some d) : BindOk d := by
  match i, h with
  | 0, h => cases h; exact b_is_name
  | 1, h => cases h; exact b_is_label
  | 2, h => cases h; exact b_are_names
  | 3, h => cases h; exact b_is_integer
  | 4, h => cases h; exact b_is_index
  | 5, h => cases h; exact b_is_row
  | 6, h => cases h; exact b_inner_types
  | 7, h => cases h; exact b_is_type
  | 8, h => cases h; exact b_variables
  | 9, h => cases h; exact b_is_closed
  | 10, h => cases h; exact b_is_scheme
  | 11, h => cases h; exact b_are_effects
  | 12, h => cases h; exact b_is_face
  | 13, h => cases h; exact b_cut_face
  | 14, h => cases h; exact b__law_draw
  | 15, h => cases h; exact b__law_any
  | 16, h => cases h; exact b__law_of
  | 17, h => cases h; exact b__law_same
  | 18, h => cases h; exact b__law_is_name
  | 19, h => cases h; exact b__law_name
  | 20, h => cases h; exact b__law_labels
  | 21, h => cases h; exact b__law_a_row
  | 22, h => cases h; exact b__law_a_type
  | 23, h => cases h; exact b__law_joined_row
  | 24, h => cases h; exact b__law_put_in
  | 25, h => cases h; exact b__law_vars
  | 26, h => cases h; exact b__law_once
  | 27, h => cases h; exact b__law_plain
  | 28, h => cases h; exact b__law_closed_type
  | 29, h => cases h; exact b__law_a_face
  | 30, h => cases h; exact b__law_is_face
  | 31, h => cases h; exact b__law_bent
  | 32, h => cases h; exact b_law
  | n + 33, h => cases h
theorem ck : ckPg ds mo pg ds = true := by decide +kernel
theorem ckh : ckHds mo pg = true := by decide +kernel
abbrev R : PySem.W.OpenRow := PySem.W.OpenLaw.row PySem.Challenge.rw_whoevermade_k04_whole_faces_judged
abbrev hk : PySem.W.Hook := hookW 5 R.prog mo (faOf ds) (ds.map DefS.he)
def ob (s : PySem.W.SharedT) : He.AlD × Bool := obsW 5 R.prog mo (faOf ds) (ds.map DefS.he) (HandSHeadRun.getT s)
theorem ob_eq (s : PySem.W.SharedT) : ob s = hk.obs s.abs := obsW_eq (HandSHeadRun.getT_eq s)
def loose : List Str := (["LETTERS", "DIGITS", "MOST_SIGNS", "WORDS", "is_name", "is_label", "are_names", "is_integer", "is_index", "MOST_DEEP", "MOST_PARTS", "MOST_VARIABLES"] : List Str) ++ (["PLAIN", "is_row", "inner_types", "is_type", "variables", "is_closed", "is_scheme", "are_effects", "is_face", "cut_face", "_law_draw", "_law_any"] : List Str) ++ (["_law_of", "_law_same", "_law_is_name", "_law_name", "_law_labels", "_law_a_row", "_law_a_type", "_law_joined_row", "_law_put_in", "_law_vars", "_law_once", "_law_plain"] : List Str) ++ (["_law_closed_type", "_law_a_face", "_law_is_face", "_law_bent"] : List Str)
theorem run (w : World) : HandSHeadRun.RunEq R (PySem.W.view R.prog [45]) hk ob 4000 loose w := by
  intro os
  kernel_rfl
end K04
set_option Elab.async false
set_option linter.all false
set_option maxRecDepth 100000
set_option maxHeartbeats 0
/-! K04F: printed by gen.py: from the plain word K04.plain to the row. -/
open PySem PySem.W PySem.Calls PyProof.Rows
theorem PySem.Challenge.cw_whoevermade_k04_whole_faces_judged_holds : PySem.Challenge.rw_whoevermade_k04_whole_faces_judged.Holds := by
  w_on; o_law
  refine HandSHeadRun.head_any (r := OpenLaw.row PySem.Challenge.rw_whoevermade_k04_whole_faces_judged) (q := view (OpenLaw.row PySem.Challenge.rw_whoevermade_k04_whole_faces_judged).prog [45]) (H := K04.hk) (ob := K04.ob) (M := 4000) (loose := K04.loose) (d := HandSHeadRun.topDef (OpenLaw.row PySem.Challenge.rw_whoevermade_k04_whole_faces_judged).prog 45) (kwd := []) K04.ob_eq
    (by kernel_rfl) (fun s => by kernel_rfl) K04.run (by kernel_rfl) (by kernel_rfl) (by kernel_rfl) (by rfl) (by first | assumption | decide +kernel) (by decide +kernel) ⟨rfl, rfl, rfl, rfl, rfl, by decide +kernel⟩ ?hw ?hc
  case hw => w_witness2
  case hc =>
    refine LamX.walk_ofTsE (l := PySem.Challenge.rw_whoevermade_k04_whole_faces_judged) (n := 63) (k := 3 * 40 + 2) (x := "script") (CX := fun w => L2.CX PySem.Challenge.rw_whoevermade_k04_whole_faces_judged.prog w) rfl (by decide) (by kernel_rfl) ⟨rfl, by decide, by decide⟩ ?F (fun _ _ _ _ _ z => ?z)
    case F =>
      intro w mg fa h Y G hmg0
      have hmg : mg ("law" : PySem.Str) = some (.ref fa) := by
        have e : (HandSHeadRun.topDef (OpenLaw.row PySem.Challenge.rw_whoevermade_k04_whole_faces_judged).prog 45).name = ("law" : PySem.Str) := by kernel_rfl
        rw [← e]
        exact hmg0
      exact Dw.law_of K04.ck K04.ckh K04.hb Y G (d := K04.d_law) rfl rfl hmg K04.plain _ (by decide)
    case z =>
      obtain ⟨_, _, _, _, _, _, _, _, _, _, _, _, q⟩ := z
      exact q
