import PyProof.Rows.All
import Wide.All
import OpenK.AllK
import Wide.FinOn
import HandS.ForMost
import HandS.IsInst
import HandS.RaiseMore
import HandS.Wide
import HandS.TupAny
import KE.SortData
import OpenK.KMore
import HandS.Conv
import HandS.Small
import HandS.Zip
import KE.GoesEnum
import HandS.Text
import HandS.More
import HandS.Deep
import HandS.Flow
import HandS.TupSets
import KE.KeyNested
import HandS.ListItems
import HandS.Style
import HandS.DictComp
import HandS.SetBool
import HandS.WideBits
import HandS.Iter
import KE.SortKeyHeap
import KE.KDictPairs
import HandS.Dict
import PySem.Challenge.RW_throughdoors_k66_hitting_sets
set_option Elab.async false
set_option linter.all false
set_option maxRecDepth 100000
set_option maxHeartbeats 4000000
/-! DLa: values as trees (tuples by value), a store of mutable objects by number, what stands for what. -/
namespace DL
open PySem PySem.Spec PyProof.Rows L2

/-- a value: tuples by value; lists that are only read, by value (lit); mutable objects by their number in the store -/
inductive W where
  | non | bl (b : Bool) | int (i : Int) | str (x : Str) | tup (ws : List W) | lit (ws : List W) | ref (i : Nat) | raw (v : V)

/-- an object of the store -/
inductive O where
  | lst (ws : List W)
  | dk (kvs : List (Key × W))
  /-- a tuple that a dict may keep as a key; a dict of such keys -/
  | tk (ws : List W)
  | dt (kvs : List (List Key × W))
  /-- a tuple that is known to its last field -/
  | ft (ws : List W)

abbrev Sto := List O
abbrev Slots := List (Option W)
abbrev Fg := PySem.W.Frag

/-- a list that nobody writes: of the module, or locked -/
def LitAt (K : Fg) (H : Hp) (a : Addr) (xs : List V) : Prop := SqL K H a xs ∧ ((∃ o, H a = some (.frz o (.lst xs))) ∨ ∀ H', SqL K H' a xs)

mutual
inductive Rep (K : Fg) (r : List Addr) (H : Hp) : V → W → Prop
  | non : Rep K r H .non .non
  | bl (b : Bool) : Rep K r H (.bl b) (.bl b)
  | int (i : Int) : Rep K r H (.int i) (.int i)
  | str (x : Str) : Rep K r H (.str x) (.str x)
  | tup {a : Addr} {xs : List V} {ws : List W} : SqT K H a xs → RepL K r H xs ws → Rep K r H (.ref a) (.tup ws)
  | lit {a : Addr} {xs : List V} {ws : List W} : LitAt K H a xs → RepL K r H xs ws → Rep K r H (.ref a) (.lit ws)
  | ref {a : Addr} {i : Nat} : r[i]? = some a → Rep K r H (.ref a) (.ref i)
  | raw (v : V) : Rep K r H v (.raw v)
inductive RepL (K : Fg) (r : List Addr) (H : Hp) : List V → List W → Prop
  | nil : RepL K r H [] []
  | cons {v : V} {vs : List V} {w : W} {ws : List W} : Rep K r H v w → RepL K r H vs ws → RepL K r H (v :: vs) (w :: ws)
end

def RelKV (K : Fg) (r : List Addr) (H : Hp) (vs : List (Key × V)) (ws : List (Key × W)) : Prop := vs.map (·.1) = ws.map (·.1) ∧ RepL K r H (vs.map (·.2)) (ws.map (·.2))
def RelO (K : Fg) (r : List Addr) (H : Hp) (a : Addr) : O → Prop
  | .lst ws => ∃ xs, H a = some (.lst xs) ∧ RepL K r H xs ws
  | .dk ws => ∃ vs, H a = some (.dK vs) ∧ RelKV K r H vs ws
  | .tk ws => ∃ xs, H a = some (.tup xs) ∧ RepL K r H xs ws
  | .dt ws => ∃ vs : List (List Key × V), H a = some (.dT vs) ∧ vs.map (·.1) = ws.map (·.1) ∧ RepL K r H (vs.map (·.2)) (ws.map (·.2))
  | .ft ws => ∃ (o : Obj) (xs : List V), H a = some (.frz o (.tup xs)) ∧ o.dict = none ∧ RepL K r H xs ws

structure RelS (K : Fg) (r : List Addr) (H : Hp) (S : Sto) : Prop where
  len : r.length = S.length
  nd : r.Nodup
  obj : ∀ (i : Nat) (a : Addr) (o : O), r[i]? = some a → S[i]? = some o → RelO K r H a o

/-- what readings lean on -/
structure Kp (K : Fg) (r : List Addr) (H : Hp) (r' : List Addr) (H' : Hp) : Prop where
  pre : ∀ (i : Nat) (a : Addr), r[i]? = some a → r'[i]? = some a
  tup : ∀ (b : Addr) (xs : List V), SqT K H b xs → SqT K H' b xs
  frz : ∀ (b : Addr) (o : Obj) (u : HO), H b = some (.frz o u) → H' b = some (.frz o u)
structure Ext (K : Fg) (r : List Addr) (H : Hp) (r' : List Addr) (H' : Hp) : Prop extends Kp K r H r' H' where
  oth : ∀ (b : Addr) (o : HO), H b = some o → b ∉ r → H' b = some o
  new : ∀ b ∈ r', b ∉ r → H b = none

theorem Ext.refl {K : Fg} {r : List Addr} {H : Hp} : Ext K r H r H :=
  ⟨⟨fun _ _ h => h, fun _ _ h => h, fun _ _ _ h => h⟩, fun _ _ h _ => h, fun _ h h' => (h' h).elim⟩
theorem Ext.trans {K : Fg} {r r1 r2 : List Addr} {H H1 H2 : Hp} (a : Ext K r H r1 H1) (b : Ext K r1 H1 r2 H2) : Ext K r H r2 H2 := by
  refine ⟨⟨fun i x h => b.pre i x (a.pre i x h), fun c xs h => b.tup c xs (a.tup c xs h), fun c o u h => b.frz c o u (a.frz c o u h)⟩, fun c o h n => ?_, fun c hc n => ?_⟩
  · refine b.oth c o (a.oth c o h n) fun m => ?_
    rw [a.new c m n] at h
    cases h
  · by_cases m : c ∈ r1
    · exact a.new c m n
    · have e := b.new c hc m
      cases q : H c with
      | none => rfl
      | some o =>
        rw [a.oth c o q n] at e
        cases e

theorem LitAt.mono {K : Fg} {r r' : List Addr} {H H' : Hp} {a : Addr} {xs : List V} (e : Kp K r H r' H') (h : LitAt K H a xs) : LitAt K H' a xs := by
  obtain ⟨h1, h2⟩ := h
  rcases h2 with ⟨o, q⟩ | q
  · exact ⟨.inl (.inr ⟨o, e.frz _ _ _ q⟩), .inl ⟨o, e.frz _ _ _ q⟩⟩
  · exact ⟨q H', .inr q⟩

section
variable {K : Fg} {r r' : List Addr} {H H' : Hp}
mutual
theorem Rep.mono' (e : Kp K r H r' H') : ∀ {v : V} {w : W}, Rep K r H v w → Rep K r' H' v w
  | _, _, .non => .non
  | _, _, .bl b => .bl b
  | _, _, .int i => .int i
  | _, _, .str x => .str x
  | _, _, .tup h l => .tup (e.tup _ _ h) (RepL.mono' e l)
  | _, _, .lit h l => .lit (h.mono e) (RepL.mono' e l)
  | _, _, .ref h => .ref (e.pre _ _ h)
  | _, _, .raw v => .raw v
theorem RepL.mono' (e : Kp K r H r' H') : ∀ {vs : List V} {ws : List W}, RepL K r H vs ws → RepL K r' H' vs ws
  | _, _, .nil => .nil
  | _, _, .cons h l => .cons (Rep.mono' e h) (RepL.mono' e l)
end
theorem Rep.mono (e : Ext K r H r' H') {v : V} {w : W} (h : Rep K r H v w) : Rep K r' H' v w := h.mono' e.toKp
theorem RepL.mono (e : Ext K r H r' H') {vs : List V} {ws : List W} (h : RepL K r H vs ws) : RepL K r' H' vs ws := h.mono' e.toKp
end

section
variable {K : Fg} {r : List Addr} {H : Hp} {S : Sto}
theorem RepL.length : ∀ {vs : List V} {ws : List W}, RepL K r H vs ws → vs.length = ws.length
  | _, _, .nil => rfl
  | _, _, .cons _ l => congrArg (· + 1) (RepL.length l)
theorem RepL.get : ∀ {vs : List V} {ws : List W} {i : Nat} {w : W}, RepL K r H vs ws → ws[i]? = some w → ∃ v, vs[i]? = some v ∧ Rep K r H v w
  | _, _, _, _, .nil, h => by simp at h
  | _, _, 0, _, .cons q _, h => by
    have e := Option.some.inj h
    subst e
    exact ⟨_, rfl, q⟩
  | _, _, i + 1, w, .cons _ l, h => RepL.get (i := i) l h
theorem RepL.getV : ∀ {vs : List V} {ws : List W} {i : Nat} {v : V}, RepL K r H vs ws → vs[i]? = some v → ∃ w, ws[i]? = some w ∧ Rep K r H v w
  | _, _, _, _, .nil, h => by simp at h
  | _, _, 0, _, .cons q _, h => by
    have e := Option.some.inj h
    subst e
    exact ⟨_, rfl, q⟩
  | _, _, i + 1, w, .cons _ l, h => RepL.getV (i := i) l h
theorem RepL.app : ∀ {vs us : List V} {ws xs : List W}, RepL K r H vs ws → RepL K r H us xs → RepL K r H (vs ++ us) (ws ++ xs)
  | _, _, _, _, .nil, h => h
  | _, _, _, _, .cons q l, h => .cons q (RepL.app l h)
theorem RepL.one {v : V} {w : W} (h : Rep K r H v w) : RepL K r H [v] [w] := .cons h .nil
theorem RepL.take : ∀ {vs : List V} {ws : List W} (n : Nat), RepL K r H vs ws → RepL K r H (vs.take n) (ws.take n)
  | _, _, 0, _ => .nil
  | _, _, _ + 1, .nil => .nil
  | _, _, n + 1, .cons q l => .cons q (RepL.take n l)
theorem RepL.drop : ∀ {vs : List V} {ws : List W} (n : Nat), RepL K r H vs ws → RepL K r H (vs.drop n) (ws.drop n)
  | _, _, 0, h => h
  | _, _, _ + 1, .nil => .nil
  | _, _, n + 1, .cons _ l => RepL.drop n l
theorem RepL.set {v : V} {w : W} (h : Rep K r H v w) : ∀ {vs : List V} {ws : List W} (i : Nat), RepL K r H vs ws → RepL K r H (vs.set i v) (ws.set i w)
  | _, _, _, .nil => .nil
  | _, _, 0, .cons _ l => .cons h l
  | _, _, i + 1, .cons q l => .cons q (RepL.set h i l)
theorem RepL.dropLast : ∀ {vs : List V} {ws : List W}, RepL K r H vs ws → RepL K r H vs.dropLast ws.dropLast
  | _, _, .nil => .nil
  | _, _, .cons q .nil => .nil
  | _, _, .cons q (.cons q' l) => .cons q (RepL.dropLast (.cons q' l))
theorem RepL.eraseIdx : ∀ {vs : List V} {ws : List W} (i : Nat), RepL K r H vs ws → RepL K r H (vs.eraseIdx i) (ws.eraseIdx i)
  | _, _, _, .nil => .nil
  | _, _, 0, .cons _ l => l
  | _, _, i + 1, .cons q l => .cons q (RepL.eraseIdx i l)
theorem RepL.rev : ∀ {vs : List V} {ws : List W}, RepL K r H vs ws → RepL K r H vs.reverse ws.reverse
  | _, _, .nil => .nil
  | _, _, .cons q l => by
    rw [List.reverse_cons, List.reverse_cons]
    exact RepL.app (RepL.rev l) (.one q)

theorem RelS.lt (R : RelS K r H S) {i : Nat} {a : Addr} (h : r[i]? = some a) : i < S.length := by
  rw [← R.len]
  exact (List.getElem?_eq_some_iff.mp h).1
theorem RelS.at (R : RelS K r H S) {i : Nat} {o : O} (h : S[i]? = some o) : ∃ a, r[i]? = some a ∧ RelO K r H a o := by
  have l : i < r.length := by
    rw [R.len]
    exact (List.getElem?_eq_some_iff.mp h).1
  exact ⟨r[i], List.getElem?_eq_getElem l, R.obj i _ o (List.getElem?_eq_getElem l) h⟩
theorem RelS.ix (R : RelS K r H S) {i j : Nat} {a : Addr} (h : r[i]? = some a) (h' : r[j]? = some a) : i = j := by
  obtain ⟨h1, e1⟩ := List.getElem?_eq_some_iff.mp h
  obtain ⟨h2, e2⟩ := List.getElem?_eq_some_iff.mp h'
  exact (List.getElem_inj R.nd).mp (e1.trans e2.symm)

theorem sqT_upd {p : Addr} {o : HO} (h : H p = none) : ∀ b xs, SqT K H b xs → SqT K (upd H p o) b xs := fun b xs q => by
  rcases q with (q | ⟨u, q⟩) | q
  · exact .inl (.inl (by rw [upd_ne (ne_of_none q h)]; exact q))
  · exact .inl (.inr ⟨u, by rw [upd_ne (ne_of_none q h)]; exact q⟩)
  · exact .inr q
/-- what may be written: no tuple, nothing locked -/
def Soft : HO → Prop
  | .lst _ => True
  | .dK _ => True
  | .dT _ => True
  | .ext _ => True
  | _ => False
theorem sqT_wr {p : Addr} {o u : HO} (h : H p = some u) (m : Soft u) : ∀ b xs, SqT K H b xs → SqT K (upd H p o) b xs := fun b xs q => by
  rcases q with (q | ⟨v, q⟩) | q
  · exact .inl (.inl (by rw [upd_ne (ne_of q h (by intro z; rw [← z] at m; exact m))]; exact q))
  · exact .inl (.inr ⟨v, by rw [upd_ne (ne_of q h (by intro z; rw [← z] at m; exact m))]; exact q⟩)
  · exact .inr q
theorem RelO.soft {a : Addr} {o : O} (x : RelO K r H a o) : ∃ u, H a = some u ∧ True := by
  cases o with
  | lst ws =>
    obtain ⟨xs, h1, h2⟩ := x
    exact ⟨_, h1, trivial⟩
  | dk ws =>
    obtain ⟨xs, h1, h2⟩ := x
    exact ⟨_, h1, trivial⟩
  | tk ws =>
    obtain ⟨xs, h1, h2⟩ := x
    exact ⟨_, h1, trivial⟩
  | dt ws =>
    obtain ⟨xs, h1, h2⟩ := x
    exact ⟨_, h1, trivial⟩
  | ft ws =>
    obtain ⟨ob, xs, h1, h2⟩ := x
    exact ⟨_, h1, trivial⟩
theorem relO_mono' {r' : List Addr} {H' : Hp} {a : Addr} {o : O} (e : Kp K r H r' H') (hl : H' a = H a) (x : RelO K r H a o) : RelO K r' H' a o := by
  cases o with
  | lst ws =>
    obtain ⟨xs, h1, h2⟩ := x
    exact ⟨xs, by rw [hl]; exact h1, h2.mono' e⟩
  | dk ws =>
    obtain ⟨xs, h1, h2, h3⟩ := x
    exact ⟨xs, by rw [hl]; exact h1, h2, h3.mono' e⟩
  | tk ws =>
    obtain ⟨xs, h1, h2⟩ := x
    exact ⟨xs, by rw [hl]; exact h1, h2.mono' e⟩
  | dt ws =>
    obtain ⟨xs, h1, h2, h3⟩ := x
    exact ⟨xs, by rw [hl]; exact h1, h2, h3.mono' e⟩
  | ft ws =>
    obtain ⟨ob, xs, h1, h2, h3⟩ := x
    exact ⟨ob, xs, by rw [hl]; exact h1, h2, h3.mono' e⟩
theorem relO_mono {r' : List Addr} {H' : Hp} {a : Addr} {o : O} (e : Ext K r H r' H') (hl : H' a = H a) (x : RelO K r H a o) : RelO K r' H' a o := relO_mono' e.toKp hl x
theorem RelS.there (R : RelS K r H S) {i : Nat} {a : Addr} (ha : r[i]? = some a) : ∃ u, H a = some u ∧ True := by
  have l := R.lt ha
  exact (R.obj i a _ ha (List.getElem?_eq_getElem l)).soft
theorem RelS.notin (R : RelS K r H S) {p : Addr} (h : H p = none) : p ∉ r := fun m => by
  obtain ⟨i, l, e⟩ := List.mem_iff_getElem.mp m
  obtain ⟨u, q, _⟩ := R.there (i := i) (a := p) (by rw [List.getElem?_eq_getElem l, e])
  rw [h] at q
  cases q
/-- a new object that is no member of the store (a tuple, ..) -/
theorem ext_new {p : Addr} {o : HO} (h : H p = none) : Ext K r H r (upd H p o) :=
  ⟨⟨fun _ _ q => q, sqT_upd h, fun b o u q => by rw [upd_ne (ne_of_none q h)]; exact q⟩, fun b u q _ => by rw [upd_ne (ne_of_none q h)]; exact q, fun _ q n => (n q).elim⟩
theorem rel_new (R : RelS K r H S) {p : Addr} {o : HO} (h : H p = none) : RelS K r (upd H p o) S :=
  ⟨R.len, R.nd, fun i a ob ha hs => by
    obtain ⟨u, q, _⟩ := R.there ha
    exact relO_mono (ext_new h) (upd_ne (ne_of_none q h)) (R.obj i a ob ha hs)⟩
theorem rep_tup {p : Addr} {xs : List V} {ws : List W} (h : H p = none) (l : RepL K r H xs ws) : Rep K r (upd H p (.tup xs)) (.ref p) (.tup ws) :=
  .tup (.of upd_same) (l.mono (ext_new h))
/-- a new object, a member of the store -/
theorem ext_mem {p : Addr} {u : HO} (h : H p = none) : Ext K r H (r ++ [p]) (upd H p u) := by
  refine ⟨⟨fun i a q => ?_, sqT_upd h, fun b o u q => by rw [upd_ne (ne_of_none q h)]; exact q⟩, fun b u q _ => by rw [upd_ne (ne_of_none q h)]; exact q, fun b q n => ?_⟩
  · rw [List.getElem?_append_left (List.getElem?_eq_some_iff.mp q).1]
    exact q
  · rcases List.mem_append.mp q with m | m
    · exact (n m).elim
    · rw [List.mem_singleton.mp m]
      exact h
theorem rel_mem (R : RelS K r H S) {p : Addr} {u : HO} {o : O} (h : H p = none) (x : RelO K (r ++ [p]) (upd H p u) p o) : RelS K (r ++ [p]) (upd H p u) (S ++ [o]) := by
  refine ⟨by rw [List.length_append, List.length_append, R.len]; rfl, ?_, fun i a ob ha hs => ?_⟩
  · rw [List.nodup_append]
    refine ⟨R.nd, List.nodup_cons.mpr ⟨List.not_mem_nil, List.nodup_nil⟩, fun a ha b hb e => ?_⟩
    rw [List.mem_singleton.mp hb] at e
    exact R.notin h (e ▸ ha)
  · by_cases l : i < r.length
    · rw [List.getElem?_append_left l] at ha
      rw [List.getElem?_append_left (by rw [← R.len]; exact l)] at hs
      obtain ⟨v, q, _⟩ := R.there ha
      exact relO_mono (ext_mem h) (upd_ne (ne_of_none q h)) (R.obj i a ob ha hs)
    · rw [List.getElem?_append_right (Nat.le_of_not_lt l)] at ha
      rw [List.getElem?_append_right (by rw [← R.len]; exact Nat.le_of_not_lt l), ← R.len] at hs
      cases e : i - r.length with
      | zero =>
        rw [e] at ha hs
        have e1 : p = a := Option.some.inj ha
        have e2 : o = ob := Option.some.inj hs
        rw [← e1, ← e2]
        exact x
      | succ n =>
        rw [e] at ha
        simp at ha
theorem rep_mem (R : RelS K r H S) {p : Addr} {H' : Hp} : Rep K (r ++ [p]) H' (.ref p) (.ref S.length) := .ref (by rw [← R.len, List.getElem?_concat_length])
theorem new_lst (R : RelS K r H S) {p : Addr} {xs : List V} {ws : List W} (h : H p = none) (l : RepL K r H xs ws) : RelS K (r ++ [p]) (upd H p (.lst xs)) (S ++ [.lst ws]) :=
  rel_mem R h ⟨xs, upd_same, l.mono (ext_mem h)⟩
/-- a member of the store is written -/
theorem ext_wr {i : Nat} {p : Addr} {u u' : HO} (hp : r[i]? = some p) (h : H p = some u) (m : Soft u) : Ext K r H r (upd H p u') :=
  ⟨⟨fun _ _ q => q, sqT_wr h m, fun b o v q => by rw [upd_ne (ne_of q h (by intro z; rw [← z] at m; exact m))]; exact q⟩, fun b o q n => by rw [upd_ne (fun e => n (by rw [e]; exact List.mem_of_getElem? hp))]; exact q, fun _ q n => (n q).elim⟩
theorem rel_wr (R : RelS K r H S) {i : Nat} {p : Addr} {u u' : HO} {o : O} (hp : r[i]? = some p) (h : H p = some u) (m : Soft u) (x : RelO K r (upd H p u') p o) : RelS K r (upd H p u') (S.set i o) := by
  refine ⟨by rw [List.length_set]; exact R.len, R.nd, fun j a ob ha hs => ?_⟩
  by_cases e : j = i
  · subst e
    rw [hp] at ha
    have e1 := Option.some.inj ha
    subst e1
    rw [List.getElem?_set_self (R.lt hp)] at hs
    have e2 := Option.some.inj hs
    subst e2
    exact x
  · rw [List.getElem?_set_ne (Ne.symm e)] at hs
    have ne : a ≠ p := fun z => e (R.ix ha (z ▸ hp))
    exact relO_mono (ext_wr hp h m) (upd_ne ne) (R.obj j a ob ha hs)
theorem wr_lst (R : RelS K r H S) {i : Nat} {p : Addr} {xs xs' : List V} {ws' : List W} (hp : r[i]? = some p) (h : H p = some (.lst xs)) (l : RepL K r H xs' ws') : RelS K r (upd H p (.lst xs')) (S.set i (.lst ws')) :=
  rel_wr R hp h trivial ⟨xs', upd_same, l.mono (ext_wr hp h trivial)⟩

/-- an object apart from the store -/
theorem Ext.apart {r' : List Addr} {H' : Hp} {D : Addr} {o : HO} (e : Ext K r H r' H') (n : D ∉ r) (h : H D = some o) : D ∉ r' ∧ H' D = some o :=
  ⟨fun m => (ne_of_none h (e.new D m n)) rfl, e.oth D o h n⟩
theorem Kp.hid {D : Addr} {o u : HO} (h : H D = some u) (m : Soft u) : Kp K r H r (upd H D o) :=
  ⟨fun _ _ q => q, sqT_wr h m, fun b ob v q => by rw [upd_ne (ne_of q h (by intro z; rw [← z] at m; exact m))]; exact q⟩
theorem Ext.hid {r' : List Addr} {H' : Hp} {D : Addr} {o u : HO} (e : Ext K r H r' H') (h0 : H D = none) (h : H' D = some u) (m : Soft u) : Ext K r H r' (upd H' D o) :=
  ⟨⟨e.pre, fun b xs q => sqT_wr h m b xs (e.tup b xs q), fun b ob v q => (Kp.hid (K := K) (r := r) h m).frz b ob v (e.frz b ob v q)⟩, fun b ob q n => by rw [upd_ne (ne_of_none q h0)]; exact e.oth b ob q n, e.new⟩
theorem RelS.hid (R : RelS K r H S) {D : Addr} {o u : HO} (n : D ∉ r) (h : H D = some u) (m : Soft u) : RelS K r (upd H D o) S :=
  ⟨R.len, R.nd, fun i a ob ha hs => relO_mono' (Kp.hid h m) (upd_ne fun e => n (by rw [← e]; exact List.mem_of_getElem? ha)) (R.obj i a ob ha hs)⟩
theorem Ext.join {r' : List Addr} {H' : Hp} {D : Addr} (e : Ext K r H r' H') (h0 : H D = none) : Ext K r H (r' ++ [D]) H' :=
  ⟨⟨fun i a q => by
    have q' := e.pre i a q
    rw [List.getElem?_append_left (List.getElem?_eq_some_iff.mp q').1]
    exact q', e.tup, e.frz⟩, e.oth, fun b q n => by
    rcases List.mem_append.mp q with m | m
    · exact e.new b m n
    · rw [List.mem_singleton.mp m]
      exact h0⟩
theorem Kp.join {D : Addr} : Kp K r H (r ++ [D]) H :=
  ⟨fun i a q => by
    rw [List.getElem?_append_left (List.getElem?_eq_some_iff.mp q).1]
    exact q, fun _ _ q => q, fun _ _ _ q => q⟩
theorem RelS.join (R : RelS K r H S) {D : Addr} {xs : List V} {ws : List W} (n : D ∉ r) (h : H D = some (.lst xs)) (l : RepL K r H xs ws) : RelS K (r ++ [D]) H (S ++ [.lst ws]) := by
  refine ⟨by rw [List.length_append, List.length_append, R.len]; rfl, ?_, fun i a ob ha hs => ?_⟩
  · rw [List.nodup_append]
    refine ⟨R.nd, List.nodup_cons.mpr ⟨List.not_mem_nil, List.nodup_nil⟩, fun a ha b hb e => ?_⟩
    rw [List.mem_singleton.mp hb] at e
    exact n (e ▸ ha)
  · by_cases l' : i < r.length
    · rw [List.getElem?_append_left l'] at ha
      rw [List.getElem?_append_left (by rw [← R.len]; exact l')] at hs
      exact relO_mono' Kp.join rfl (R.obj i a ob ha hs)
    · rw [List.getElem?_append_right (Nat.le_of_not_lt l')] at ha
      rw [List.getElem?_append_right (by rw [← R.len]; exact Nat.le_of_not_lt l'), ← R.len] at hs
      cases e : i - r.length with
      | zero =>
        rw [e] at ha hs
        have e1 : D = a := Option.some.inj ha
        have e2 : O.lst ws = ob := Option.some.inj hs
        rw [← e1, ← e2]
        exact ⟨xs, h, l.mono' Kp.join⟩
      | succ n =>
        rw [e] at ha
        simp at ha

/-- the slots -/
def RepE (K : Fg) (r : List Addr) (H : Hp) (s : L2.St) (env : Slots) : Prop := s.length = env.length ∧ ∀ (i : Nat) (w : W), env[i]? = some (some w) → ∃ v, s[i]? = some (some v) ∧ Rep K r H v w
theorem RepE.mono {r' : List Addr} {H' : Hp} {s : L2.St} {env : Slots} (e : Ext K r H r' H') (h : RepE K r H s env) : RepE K r' H' s env :=
  ⟨h.1, fun i w q => by
    obtain ⟨v, a, b⟩ := h.2 i w q
    exact ⟨v, a, b.mono e⟩⟩
theorem RepE.set {s : L2.St} {env : Slots} {v : V} {w : W} (h : RepE K r H s env) (q : Rep K r H v w) (i : Nat) : RepE K r H (s.set i (some v)) (env.set i (some w)) := by
  refine ⟨by rw [List.length_set, List.length_set]; exact h.1, fun j x e => ?_⟩
  by_cases hj : j = i
  · subst hj
    have l : j < env.length := by
      have := (List.getElem?_eq_some_iff.mp e).1
      rw [List.length_set] at this
      exact this
    rw [List.getElem?_set_self l] at e
    have e1 := Option.some.inj (Option.some.inj e)
    subst e1
    exact ⟨v, List.getElem?_set_self (by rw [h.1]; exact l), q⟩
  · rw [List.getElem?_set_ne (Ne.symm hj)] at e
    obtain ⟨u, a, b⟩ := h.2 j x e
    exact ⟨u, by rw [List.getElem?_set_ne (Ne.symm hj)]; exact a, b⟩
def wipeW (env : Slots) : List Nat → Slots
  | [] => env
  | v :: vs => (wipeW env vs).set v none
theorem RepE.nil {s : L2.St} {env : Slots} (h : RepE K r H s env) (i : Nat) : RepE K r H (s.set i none) (env.set i none) := by
  refine ⟨by rw [List.length_set, List.length_set]; exact h.1, fun j x e => ?_⟩
  by_cases hj : j = i
  · subst hj
    have l : j < env.length := by
      have := (List.getElem?_eq_some_iff.mp e).1
      rw [List.length_set] at this
      exact this
    rw [List.getElem?_set_self l] at e
    cases e
  · rw [List.getElem?_set_ne (Ne.symm hj)] at e
    obtain ⟨u, a, b⟩ := h.2 j x e
    exact ⟨u, by rw [List.getElem?_set_ne (Ne.symm hj)]; exact a, b⟩
theorem RepE.wipe {s : L2.St} {env : Slots} (h : RepE K r H s env) : ∀ vs : List Nat, RepE K r H (L2.wipe s vs) (wipeW env vs)
  | [] => h
  | v :: vs => RepE.nil (RepE.wipe h vs) v
theorem RepE.start {N : List Str} {vs : List V} {ws : List W} (l : RepL K r H vs ws) : RepE K r H (L2.start N vs) (ws.map some ++ List.replicate (N.length - ws.length) none) := by
  have hl := l.length
  refine ⟨by simp [L2.start, hl], fun i w e => ?_⟩
  by_cases hi : i < ws.length
  · rw [List.getElem?_append_left (by rw [List.length_map]; exact hi), List.getElem?_map, List.getElem?_eq_getElem hi] at e
    have e1 : ws[i] = w := Option.some.inj (Option.some.inj e)
    obtain ⟨v, a, b⟩ := l.get (List.getElem?_eq_getElem hi)
    rw [e1] at b
    refine ⟨v, ?_, b⟩
    show (vs.map some ++ List.replicate (N.length - vs.length) Option.none)[i]? = _
    rw [List.getElem?_append_left (by rw [List.length_map, hl]; exact hi), List.getElem?_map, a]
    rfl
  · rw [List.getElem?_append_right (by rw [List.length_map]; exact Nat.le_of_not_lt hi)] at e
    rw [List.getElem?_replicate] at e
    split at e
    · cases Option.some.inj e
    · cases e
end
end DL

/-! DLb: the judgements over trees and the store; expressions, tests, arguments. -/
namespace DL
open PySem PySem.Spec PyProof.Rows L2

abbrev WK := W → Sto → Prop
abbrev DE := Slots → Sto → WK → Prop
abbrev DT := Slots → Sto → (Bool → Sto → Prop) → Prop
abbrev DA := Slots → Sto → (List W → Sto → Prop) → Prop
abbrev DG := W → Slots → Sto → (Slots → Sto → Prop) → Prop
structure DEnds where
  nx : Slots → Sto → Prop
  rt : WK
  bk : Slots → Sto → Prop
  ct : Slots → Sto → Prop
abbrev DS := DEnds → Slots → Sto → Prop

def Sim (K : Fg) (t : TE) (d : DE) : Prop := ∀ (r : List Addr) (H : Hp) (S : Sto) (s : L2.St) (env : Slots) (Q : WK) (Q0 : VK), RelS K r H S → RepE K r H s env → d env S Q →
  (∀ r' H' S' v w, Ext K r H r' H' → RelS K r' H' S' → Rep K r' H' v w → Q w S' → Q0 v H') → t s H Q0
def SimT (K : Fg) (t : TT) (d : DT) : Prop := ∀ (r : List Addr) (H : Hp) (S : Sto) (s : L2.St) (env : Slots) (Q : Bool → Sto → Prop) (Q0 : Bool → Hp → Prop), RelS K r H S → RepE K r H s env → d env S Q →
  (∀ r' H' S' b, Ext K r H r' H' → RelS K r' H' S' → Q b S' → Q0 b H') → t s H Q0
def SimA (K : Fg) (t : TA) (d : DA) : Prop := ∀ (r : List Addr) (H : Hp) (S : Sto) (s : L2.St) (env : Slots) (Q : List W → Sto → Prop) (Q0 : List V → Hp → Prop), RelS K r H S → RepE K r H s env → d env S Q →
  (∀ r' H' S' vs ws, Ext K r H r' H' → RelS K r' H' S' → RepL K r' H' vs ws → Q ws S' → Q0 vs H') → t s H Q0
def SimG (K : Fg) (t : TG) (d : DG) : Prop := ∀ (r : List Addr) (H : Hp) (S : Sto) (s : L2.St) (env : Slots) (v : V) (w : W) (Q : Slots → Sto → Prop) (Q0 : L2.St → Hp → Prop), RelS K r H S → RepE K r H s env → Rep K r H v w → d w env S Q →
  (∀ r' H' S' s' env', Ext K r H r' H' → RelS K r' H' S' → RepE K r' H' s' env' → Q env' S' → Q0 s' H') → t v s H Q0
structure EndsR (K : Fg) (r : List Addr) (H : Hp) (D' : DEnds) (D : Ends) : Prop where
  nx : ∀ r' H' S' s' env', Ext K r H r' H' → RelS K r' H' S' → RepE K r' H' s' env' → D'.nx env' S' → D.nx s' H'
  rt : ∀ r' H' S' v w, Ext K r H r' H' → RelS K r' H' S' → Rep K r' H' v w → D'.rt w S' → D.rt v H'
  bk : ∀ r' H' S' s' env', Ext K r H r' H' → RelS K r' H' S' → RepE K r' H' s' env' → D'.bk env' S' → D.bk s' H'
  ct : ∀ r' H' S' s' env', Ext K r H r' H' → RelS K r' H' S' → RepE K r' H' s' env' → D'.ct env' S' → D.ct s' H'
theorem EndsR.mono {K : Fg} {r r' : List Addr} {H H' : Hp} {D' : DEnds} {D : Ends} (e : Ext K r H r' H') (h : EndsR K r H D' D) : EndsR K r' H' D' D :=
  ⟨fun _ _ _ _ _ a => h.nx _ _ _ _ _ (e.trans a), fun _ _ _ _ _ a => h.rt _ _ _ _ _ (e.trans a), fun _ _ _ _ _ a => h.bk _ _ _ _ _ (e.trans a), fun _ _ _ _ _ a => h.ct _ _ _ _ _ (e.trans a)⟩
def SimS (K : Fg) (t : TS) (d : DS) : Prop := ∀ (r : List Addr) (H : Hp) (S : Sto) (s : L2.St) (env : Slots) (D' : DEnds) (D : Ends), RelS K r H S → RepE K r H s env → d D' env S → EndsR K r H D' D → t D s H

structure XE (X : Cx) (e : Expr) (d : DE) : Prop where
  ex : ∃ t, PE X e t ∧ Sim X.K t d
structure XT (X : Cx) (e : Expr) (d : DT) : Prop where
  ex : ∃ t, PT X e t ∧ SimT X.K t d
structure XW (X : Cx) (e : Expr) (d : DT) : Prop where
  ex : ∃ t, PW X e t ∧ SimT X.K t d
structure XA (X : Cx) (es : List Expr) (d : DA) : Prop where
  ex : ∃ t, PA X es t ∧ SimA X.K t d
structure XG (X : Cx) (tg : Expr) (d : DG) : Prop where
  ex : ∃ t, PG X tg t ∧ SimG X.K t d
structure XS (X : Cx) (st : Stmt) (d : DS) : Prop where
  ex : ∃ t, PS X st t ∧ SimS X.K t d
structure XSs (X : Cx) (st : List Stmt) (d : DS) : Prop where
  ex : ∃ t, PSs X st t ∧ SimS X.K t d

section
variable {X : Cx} {pos : Pos}
/-! ### names, constants -/
def dVar (i : Nat) : DE := fun env S Q => ∃ w, env[i]? = some (some w) ∧ Q w S
def dC (w : W) : DE := fun _ S Q => Q w S
theorem sim_c {K : Fg} {v : V} {w : W} (h : ∀ r H, Rep K r H v w) : Sim K (tC v) (dC w) := fun r H S s env Q Q0 R E d k => k r H S v w .refl R (h r H) d
theorem xe_int {i j} : XE X (.Constant (.int i) j pos) (dC (.int i)) := ⟨_, pe_int, sim_c fun _ _ => .int i⟩
theorem xe_bl {b j} : XE X (.Constant (.bool b) j pos) (dC (.bl b)) := ⟨_, pe_bl, sim_c fun _ _ => .bl b⟩
theorem xe_non {j} : XE X (.Constant .none j pos) (dC .non) := ⟨_, pe_non, sim_c fun _ _ => .non⟩
theorem xe_str {x j} : XE X (.Constant (.str x) j pos) (dC (.str x)) := ⟨_, pe_str, sim_c fun _ _ => .str x⟩
theorem xv (i : Nat) {x : Str} (hN : X.N[i]? = some x := by rfl) (hv : Vis X.env.scope x := by first | exact Or.inl rfl | exact Or.inr (Or.inl rfl) | exact Or.inr (Or.inr rfl)) (hd : (x == ("__debug__" : Str)) = false := by decide)
    (hcd : (x == ("__classdict__" : Str)) = false := by decide) : XE X (.Name x pos) (dVar i) := by
  refine ⟨_, pe_var hN hv hd hcd, fun r H S s env Q Q0 R E d k => ?_⟩
  obtain ⟨w, e, q⟩ := d
  obtain ⟨v, e', h⟩ := E.2 i w e
  exact ⟨v, e', k r H S v w .refl R h q⟩
/-- a built-in type as a value -/
theorem xe_ty {x : Str} {n : String} (hg : Gl X x) (hm : X.mg x = none) (hv : bootBuiltins x = some (.type n)) (hn : x ≠ "__name__" := by decide) (hd : (x == ("__debug__" : Str)) = false := by decide) :
    XE X (.Name x pos) (dC (.raw (.ty n))) := ⟨_, pe_bltn hg hm hv (show RelV (.ty n) (.type n) from rfl) hn hd, sim_c fun _ _ => .raw _⟩

/-! ### arguments, displays -/
def aNil : DA := fun _ S Q => Q [] S
def aCons (da : DE) (dr : DA) : DA := fun env S Q => da env S fun w S1 => dr env S1 fun ws S2 => Q (w :: ws) S2
theorem xa_nil : XA X [] aNil := ⟨_, pa_nil, fun r H S s env Q Q0 R E d k => k r H S [] [] .refl R .nil d⟩
theorem sim_cons {K : Fg} {ta : TE} {tr : TA} {da : DE} {dr : DA} (sa : Sim K ta da) (sr : SimA K tr dr) : SimA K (tCons ta tr) (aCons da dr) := fun r H S s env Q Q0 R E d k =>
  sa r H S s env _ _ R E d fun r1 H1 S1 v w e1 R1 p1 d1 => sr r1 H1 S1 s env _ _ R1 (E.mono e1) d1 fun r2 H2 S2 vs ws e2 R2 p2 q => k r2 H2 S2 _ _ (e1.trans e2) R2 (.cons (p1.mono e2) p2) q
theorem xa_cons {e : Expr} {es : List Expr} {da : DE} {dr : DA} (ha : XE X e da) (hr : XA X es dr) (hs : starEach (e :: es) X.env = (false, eval e X.env) :: starEach es X.env := by rfl) : XA X (e :: es) (aCons da dr) := by
  obtain ⟨ta, pa, sa⟩ := ha.ex
  obtain ⟨tr, pr, sr⟩ := hr.ex
  exact ⟨_, pa_cons pa pr hs, sim_cons sa sr⟩
def dTup (da : DA) : DE := fun env S Q => da env S fun ws S1 => ws.length ≤ sizeLine ∧ Q (.tup ws) S1
def dLst (da : DA) : DE := fun env S Q => da env S fun ws S1 => ws.length ≤ sizeLine ∧ Q (.ref S1.length) (S1 ++ [.lst ws])
theorem xe_tup {es : List Expr} {da : DA} {k : Nat} (ha : XA X es da) : XE X (.Tuple es k pos) (dTup da) := by
  obtain ⟨ta, pa, sa⟩ := ha.ex
  refine ⟨_, pe_tup pa, fun r H S s env Q Q0 R E d k => ?_⟩
  refine sa r H S s env _ _ R E d fun r1 H1 S1 vs ws e1 R1 p1 d1 => ?_
  refine ⟨by rw [p1.length]; exact d1.1, fun p hp => ?_⟩
  exact k r1 _ S1 _ _ (e1.trans (ext_new hp)) (rel_new R1 hp) (rep_tup hp p1) d1.2
theorem xe_lst {es : List Expr} {da : DA} (ha : XA X es da) : XE X (.List es pos) (dLst da) := by
  obtain ⟨ta, pa, sa⟩ := ha.ex
  refine ⟨_, pe_lst pa, fun r H S s env Q Q0 R E d k => ?_⟩
  refine sa r H S s env _ _ R E d fun r1 H1 S1 vs ws e1 R1 p1 d1 => ?_
  refine ⟨by rw [p1.length]; exact d1.1, fun p hp => ?_⟩
  exact k _ _ _ _ _ (e1.trans (ext_mem hp)) (new_lst R1 hp p1) (rep_mem R1) d1.2

/-! ### operators -/
def SimR (K : Fg) (t : R2) (d : W → W → Sto → WK → Prop) : Prop := ∀ (r : List Addr) (H : Hp) (S : Sto) (x y : V) (wx wy : W) (Q : WK) (Q0 : VK), RelS K r H S → Rep K r H x wx → Rep K r H y wy → d wx wy S Q →
  (∀ r' H' S' v w, Ext K r H r' H' → RelS K r' H' S' → Rep K r' H' v w → Q w S' → Q0 v H') → t x y H Q0
def SimU (K : Fg) (t : V → Hp → VK → Prop) (d : W → Sto → WK → Prop) : Prop := ∀ (r : List Addr) (H : Hp) (S : Sto) (x : V) (wx : W) (Q : WK) (Q0 : VK), RelS K r H S → Rep K r H x wx → d wx S Q →
  (∀ r' H' S' v w, Ext K r H r' H' → RelS K r' H' S' → Rep K r' H' v w → Q w S' → Q0 v H') → t x H Q0
def SimC (K : Fg) (t : List V → Hp → VK → Prop) (d : List W → Sto → WK → Prop) : Prop := ∀ (r : List Addr) (H : Hp) (S : Sto) (xs : List V) (ws : List W) (Q : WK) (Q0 : VK), RelS K r H S → RepL K r H xs ws → d ws S Q →
  (∀ r' H' S' v w, Ext K r H r' H' → RelS K r' H' S' → Rep K r' H' v w → Q w S' → Q0 v H') → t xs H Q0
def SimM (K : Fg) (t : V → List V → Hp → VK → Prop) (d : W → List W → Sto → WK → Prop) : Prop := ∀ (r : List Addr) (H : Hp) (S : Sto) (x : V) (xs : List V) (wx : W) (ws : List W) (Q : WK) (Q0 : VK), RelS K r H S → Rep K r H x wx → RepL K r H xs ws → d wx ws S Q →
  (∀ r' H' S' v w, Ext K r H r' H' → RelS K r' H' S' → Rep K r' H' v w → Q w S' → Q0 v H') → t x xs H Q0
def dOp (d : W → W → Sto → WK → Prop) (da db : DE) : DE := fun env S Q => da env S fun x S1 => db env S1 fun y S2 => d x y S2 Q
def dUn (d : W → Sto → WK → Prop) (da : DE) : DE := fun env S Q => da env S fun x S1 => d x S1 Q
def dCB (d : List W → Sto → WK → Prop) (da : DA) : DE := fun env S Q => da env S fun ws S1 => d ws S1 Q
theorem sim_op {K : Fg} {t : R2} {d : W → W → Sto → WK → Prop} {ta tb : TE} {da db : DE} (h : SimR K t d) (sa : Sim K ta da) (sb : Sim K tb db) : Sim K (tOp t ta tb) (dOp d da db) := fun r H S s env Q Q0 R E g k =>
  sa r H S s env _ _ R E g fun r1 H1 S1 v w e1 R1 p1 d1 => sb r1 H1 S1 s env _ _ R1 (E.mono e1) d1 fun r2 H2 S2 u z e2 R2 p2 d2 =>
    h r2 H2 S2 v u w z Q Q0 R2 (p1.mono e2) p2 d2 fun r3 H3 S3 a b e3 => k r3 H3 S3 a b ((e1.trans e2).trans e3)
theorem sim_un {K : Fg} {t : V → Hp → VK → Prop} {d : W → Sto → WK → Prop} {ta : TE} {da : DE} (h : SimU K t d) (sa : Sim K ta da) : Sim K (tUn t ta) (dUn d da) := fun r H S s env Q Q0 R E g k =>
  sa r H S s env _ _ R E g fun r1 H1 S1 v w e1 R1 p1 d1 => h r1 H1 S1 v w Q Q0 R1 p1 d1 fun r3 H3 S3 a b e3 => k r3 H3 S3 a b (e1.trans e3)
theorem sim_cb {K : Fg} {t : List V → Hp → VK → Prop} {d : List W → Sto → WK → Prop} {ta : TA} {da : DA} (h : SimC K t d) (sa : SimA K ta da) : Sim K (tCB t ta) (dCB d da) := fun r H S s env Q Q0 R E g k =>
  sa r H S s env _ _ R E g fun r1 H1 S1 v w e1 R1 p1 d1 => h r1 H1 S1 v w Q Q0 R1 p1 d1 fun r3 H3 S3 a b e3 => k r3 H3 S3 a b (e1.trans e3)
variable {a b e o : Expr} {es : List Expr} {da db : DE} {dA : DA}
theorem xe_op {op : Operator} {t : R2} {d : W → W → Sto → WK → Prop} (ho : OpR X (binaryOp op) t) (h : SimR X.K t d) (ha : XE X a da) (hb : XE X b db) : XE X (.BinOp a op b pos) (dOp d da db) := by
  obtain ⟨ta, pa, sa⟩ := ha.ex
  obtain ⟨tb, pb, sb⟩ := hb.ex
  exact ⟨_, pe_op ho pa pb, sim_op h sa sb⟩
theorem xe_un {op : UnaryOp} {t : V → Hp → VK → Prop} {d : W → Sto → WK → Prop} (ho : UnR X (unaryOp op) t) (h : SimU X.K t d) (ha : XE X a da) : XE X (.UnaryOp op a pos) (dUn d da) := by
  obtain ⟨ta, pa, sa⟩ := ha.ex
  exact ⟨_, pe_un ho pa, sim_un h sa⟩
theorem xe_cmp {op : CmpOp} {t : R2} {d : W → W → Sto → WK → Prop} (ho : OpR X (compareOp op) t) (h : SimR X.K t d) (ha : XE X a da) (hb : XE X b db) (hm : behindInMarks op b = false := by first | exact nomark _ | rfl) : XE X (.Compare a [op] [b] pos) (dOp d da db) := by
  obtain ⟨ta, pa, sa⟩ := ha.ex
  obtain ⟨tb, pb, sb⟩ := hb.ex
  exact ⟨_, pe_cmpR ho pa pb hm, sim_op h sa sb⟩
/-- a bool as a test -/
def dB (da : DE) : DT := fun env S Q => da env S fun w S1 => ∃ c, w = .bl c ∧ Q c S1
theorem sim_B {K : Fg} {t : TE} {d : DE} (sa : Sim K t d) : SimT K (tTest t) (dB d) := fun r H S s env Q Q0 R E g k =>
  sa r H S s env _ _ R E g fun r1 H1 S1 v w e1 R1 p1 d1 => by
    obtain ⟨c, rfl, q⟩ := d1
    cases p1
    exact ⟨c, rfl, k r1 H1 S1 c e1 R1 q⟩
theorem xt_cmp {op : CmpOp} {t : R2} {d : W → W → Sto → WK → Prop} (ho : OpR X (compareOp op) t) (h : SimR X.K t d) (ha : XE X a da) (hb : XE X b db) (hm : behindInMarks op b = false := by first | exact nomark _ | rfl) : XT X (.Compare a [op] [b] pos) (dB (dOp d da db)) := by
  obtain ⟨ta, pa, sa⟩ := ha.ex
  obtain ⟨tb, pb, sb⟩ := hb.ex
  exact ⟨_, pt_cmpR ho pa pb hm, sim_B (sim_op h sa sb)⟩
/-- truth of any value -/
def vTru (w : W) (S : Sto) (Q : Bool → Prop) : Prop := match w with
  | .non => Q false
  | .bl b => Q b
  | .int i => Q (i != 0)
  | .str y => y.length ≤ sizeLine ∧ Q ((y.length : Int) != 0)
  | .tup ws => Q (!ws.isEmpty)
  | .lit ws => Q (!ws.isEmpty)
  | .ref i => (∃ ws, S[i]? = some (.lst ws) ∧ Q (!ws.isEmpty)) ∨ ∃ kvs, S[i]? = some (.dk kvs) ∧ Q (!kvs.isEmpty)
  | .raw _ => False
theorem repL_empty {K : Fg} {r : List Addr} {H : Hp} {vs : List V} {ws : List W} (h : RepL K r H vs ws) : ws.isEmpty = vs.isEmpty := by cases h <;> rfl
theorem tru_sim {K : Fg} {r : List Addr} {H : Hp} {S : Sto} {v : V} {w : W} {Q : Bool → Prop} (R : RelS K r H S) (p : Rep K r H v w) (h : vTru w S Q) : ∃ k, TruV K v H k ∧ Q k := by
  cases p with
  | non => exact ⟨false, rfl, h⟩
  | bl b => exact ⟨b, rfl, h⟩
  | int i => exact ⟨_, rfl, h⟩
  | str x => exact ⟨_, ⟨h.1, rfl⟩, h.2⟩
  | tup q l => exact ⟨_, .inr (.inl ⟨_, q, rfl⟩), by rw [← repL_empty l]; exact h⟩
  | lit q l => exact ⟨_, .inl ⟨_, q.1, rfl⟩, by rw [← repL_empty l]; exact h⟩
  | @ref x i q =>
    rcases h with ⟨ws, e, h⟩ | ⟨kvs, e, h⟩
    · obtain ⟨xs, h1, h2⟩ := R.obj i _ _ q e
      exact ⟨_, .inl ⟨_, .of h1, rfl⟩, by rw [← repL_empty h2]; exact h⟩
    · obtain ⟨xs, h1, h2, h3⟩ := R.obj i _ _ q e
      refine ⟨_, .inr (.inr ⟨_, h1, rfl⟩), ?_⟩
      have e : kvs.isEmpty = xs.isEmpty := by
        have := congrArg List.isEmpty h2
        simp only [List.isEmpty_map] at this
        exact this.symm
      rw [← e]
      exact h
  | raw v => exact h.elim
def dTru (da : DE) : DT := fun env S Q => da env S fun w S1 => vTru w S1 fun b => Q b S1
theorem xt_val (ha : XE X a da) (he : ∀ whole, isTrue a X.env whole = (do let v ← whole; standAt a.pos; holding [v] (truthy v)) := by intro _; rfl) : XT X a (dTru da) := by
  obtain ⟨ta, pa, sa⟩ := ha.ex
  refine ⟨_, pt_truth pa he, fun r H S s env Q Q0 R E g k => ?_⟩
  refine sa r H S s env _ _ R E g fun r1 H1 S1 v w e1 R1 p1 d1 => ?_
  obtain ⟨c, h1, h2⟩ := tru_sim R1 p1 d1
  exact ⟨c, h1, k r1 H1 S1 c e1 R1 h2⟩
/-! ### and, or, not, if -/
variable {tA tB : DT} {rest : List Expr}
def dAndT (t u : DT) : DT := fun env S Q => t env S fun c S1 => if c = true then u env S1 Q else Q false S1
def dOrT (t u : DT) : DT := fun env S Q => t env S fun c S1 => if c = true then Q true S1 else u env S1 Q
def dNotT (t : DT) : DT := fun env S Q => t env S fun c S1 => Q (!c) S1
theorem xw_and1 (ha : XT X a tA) : XW X (.BoolOp .And [a] pos) tA := by
  obtain ⟨t, p, s⟩ := ha.ex
  exact ⟨_, pw_and1 p, s⟩
theorem xw_or1 (ha : XT X a tA) : XW X (.BoolOp .Or [a] pos) tA := by
  obtain ⟨t, p, s⟩ := ha.ex
  exact ⟨_, pw_or1 p, s⟩
theorem sim_and {K : Fg} {t u : TT} {d f : DT} (s1 : SimT K t d) (s2 : SimT K u f) : SimT K (tAnd t u) (dAndT d f) := fun r H S s env Q Q0 R E g k =>
  s1 r H S s env _ _ R E g fun r1 H1 S1 c e1 R1 q => by
    cases c with
    | true =>
      rw [if_pos rfl] at q ⊢
      exact s2 r1 H1 S1 s env _ _ R1 (E.mono e1) q fun r2 H2 S2 b e2 => k r2 H2 S2 b (e1.trans e2)
    | false =>
      rw [if_neg Bool.false_ne_true] at q ⊢
      exact k r1 H1 S1 false e1 R1 q
theorem sim_or {K : Fg} {t u : TT} {d f : DT} (s1 : SimT K t d) (s2 : SimT K u f) : SimT K (tOr t u) (dOrT d f) := fun r H S s env Q Q0 R E g k =>
  s1 r H S s env _ _ R E g fun r1 H1 S1 c e1 R1 q => by
    cases c with
    | false =>
      rw [if_neg Bool.false_ne_true] at q ⊢
      exact s2 r1 H1 S1 s env _ _ R1 (E.mono e1) q fun r2 H2 S2 b e2 => k r2 H2 S2 b (e1.trans e2)
    | true =>
      rw [if_pos rfl] at q ⊢
      exact k r1 H1 S1 true e1 R1 q
theorem xw_and (ha : XT X a tA) (hb : XW X (.BoolOp .And (b :: rest) pos) tB) : XW X (.BoolOp .And (a :: b :: rest) pos) (dAndT tA tB) := by
  obtain ⟨t, p, s⟩ := ha.ex
  obtain ⟨t2, p2, s2⟩ := hb.ex
  exact ⟨_, pw_and p p2, sim_and s s2⟩
theorem xw_or (ha : XT X a tA) (hb : XW X (.BoolOp .Or (b :: rest) pos) tB) : XW X (.BoolOp .Or (a :: b :: rest) pos) (dOrT tA tB) := by
  obtain ⟨t, p, s⟩ := ha.ex
  obtain ⟨t2, p2, s2⟩ := hb.ex
  exact ⟨_, pw_or p p2, sim_or s s2⟩
theorem XW.xt (h : XW X e tA) : XT X e tA := by
  obtain ⟨t, p, s⟩ := h.ex
  exact ⟨_, p.pt, s⟩
theorem xt_not (ha : XT X a tA) : XT X (.UnaryOp .Not a pos) (dNotT tA) := by
  obtain ⟨t, p, s⟩ := ha.ex
  exact ⟨_, pt_not p, fun r H S s' env Q Q0 R E g k => s r H S s' env _ _ R E g fun r1 H1 S1 c e1 R1 q => k r1 H1 S1 _ e1 R1 q⟩
/-- and, or, not as values: bools -/
def dAndV (da db : DE) : DE := fun env S Q => da env S fun w S1 => ∃ c, w = .bl c ∧ if c = true then db env S1 Q else Q (.bl false) S1
def dOrV (da db : DE) : DE := fun env S Q => da env S fun w S1 => ∃ c, w = .bl c ∧ if c = true then Q (.bl true) S1 else db env S1 Q
def dNotV (da : DE) : DE := fun env S Q => da env S fun w S1 => ∃ c, w = .bl c ∧ Q (.bl (!c)) S1
theorem xe_one {op} (ha : XE X a da) : XE X (.BoolOp op [a] pos) da := by
  obtain ⟨t, p, s⟩ := ha.ex
  exact ⟨_, pe_one p, s⟩
theorem xe_and (ha : XE X a da) (hb : XE X (.BoolOp .And (b :: rest) pos) db) : XE X (.BoolOp .And (a :: b :: rest) pos) (dAndV da db) := by
  obtain ⟨t, p, s⟩ := ha.ex
  obtain ⟨t2, p2, s2⟩ := hb.ex
  refine ⟨_, pe_and p p2, fun r H S s' env Q Q0 R E g k => ?_⟩
  refine s r H S s' env _ _ R E g fun r1 H1 S1 v w e1 R1 q1 d1 => ?_
  obtain ⟨c, rfl, d1⟩ := d1
  cases q1
  refine ⟨c, rfl, ?_⟩
  cases c with
  | true =>
    rw [if_pos rfl] at d1 ⊢
    exact s2 r1 H1 S1 s' env _ _ R1 (E.mono e1) d1 fun r2 H2 S2 b y e2 => k r2 H2 S2 b y (e1.trans e2)
  | false =>
    rw [if_neg Bool.false_ne_true] at d1 ⊢
    exact k r1 H1 S1 _ _ e1 R1 (.bl false) d1
theorem xe_or (ha : XE X a da) (hb : XE X (.BoolOp .Or (b :: rest) pos) db) : XE X (.BoolOp .Or (a :: b :: rest) pos) (dOrV da db) := by
  obtain ⟨t, p, s⟩ := ha.ex
  obtain ⟨t2, p2, s2⟩ := hb.ex
  refine ⟨_, pe_or p p2, fun r H S s' env Q Q0 R E g k => ?_⟩
  refine s r H S s' env _ _ R E g fun r1 H1 S1 v w e1 R1 q1 d1 => ?_
  obtain ⟨c, rfl, d1⟩ := d1
  cases q1
  refine ⟨c, rfl, ?_⟩
  cases c with
  | false =>
    rw [if_neg Bool.false_ne_true] at d1 ⊢
    exact s2 r1 H1 S1 s' env _ _ R1 (E.mono e1) d1 fun r2 H2 S2 b y e2 => k r2 H2 S2 b y (e1.trans e2)
  | true =>
    rw [if_pos rfl] at d1 ⊢
    exact k r1 H1 S1 _ _ e1 R1 (.bl true) d1
theorem xe_not (ha : XE X a da) : XE X (.UnaryOp .Not a pos) (dNotV da) := by
  obtain ⟨t, p, s⟩ := ha.ex
  refine ⟨_, pe_not p, fun r H S s' env Q Q0 R E g k => ?_⟩
  refine s r H S s' env _ _ R E g fun r1 H1 S1 v w e1 R1 q1 d1 => ?_
  obtain ⟨c, rfl, d1⟩ := d1
  cases q1
  exact ⟨c, rfl, k r1 H1 S1 _ _ e1 R1 (.bl _) d1⟩
def dIf (t : DT) (da db : DE) : DE := fun env S Q => t env S fun c S1 => if c = true then da env S1 Q else db env S1 Q
theorem xe_if {c : Expr} (hc : XT X c tA) (ha : XE X a da) (hb : XE X b db) : XE X (.IfExp c a b pos) (dIf tA da db) := by
  obtain ⟨t, p, s⟩ := hc.ex
  obtain ⟨t1, p1, s1⟩ := ha.ex
  obtain ⟨t2, p2, s2⟩ := hb.ex
  refine ⟨_, pe_ifExp p p1 p2, fun r H S s' env Q Q0 R E g k => ?_⟩
  refine s r H S s' env _ _ R E g fun r1 H1 S1 c e1 R1 d1 => ?_
  cases c with
  | true =>
    rw [if_pos rfl] at d1 ⊢
    exact s1 r1 H1 S1 s' env _ _ R1 (E.mono e1) d1 fun r2 H2 S2 b y e2 => k r2 H2 S2 b y (e1.trans e2)
  | false =>
    rw [if_neg Bool.false_ne_true] at d1 ⊢
    exact s2 r1 H1 S1 s' env _ _ R1 (E.mono e1) d1 fun r2 H2 S2 b y e2 => k r2 H2 S2 b y (e1.trans e2)
/-! ### calls -/
variable {x : Str} {p : Pos} {id T : String}
theorem xe_callB {t : List V → Hp → VK → Prop} {d : List W → Sto → WK → Prop} (hc : CallR X (.builtin id) t) (h : SimC X.K t d) (hg : Gl X x) (hm : X.mg x = none) (hv : bootBuiltins x = some (.builtin id)) (ha : XA X (e :: es) dA) (hn : x ≠ "__name__" := by decide) (hdb : (x == ("__debug__" : Str)) = false := by decide)
    (he : starEach (e :: es) X.env = (false, eval e X.env) :: starEach es X.env := by rfl) (hpl : (backTo pos (starEach es X.env)).any (·.1) = false := by rfl) : XE X (.Call (.Name x p) (e :: es) [] pos) (dCB d dA) := by
  obtain ⟨ta, pa, sa⟩ := ha.ex
  exact ⟨_, pe_callB hc hg hm hv pa hn hdb he hpl, sim_cb h sa⟩
theorem xe_callTy {t : List V → Hp → VK → Prop} {d : List W → Sto → WK → Prop} (hc : CallR X (.type T) t) (h : SimC X.K t d) (hg : Gl X x) (hm : X.mg x = none) (hv : bootBuiltins x = some (.type T)) (ha : XA X (e :: es) dA) (hn : x ≠ "__name__" := by decide) (hdb : (x == ("__debug__" : Str)) = false := by decide)
    (he : starEach (e :: es) X.env = (false, eval e X.env) :: starEach es X.env := by rfl) (hpl : (backTo pos (starEach es X.env)).any (·.1) = false := by rfl) : XE X (.Call (.Name x p) (e :: es) [] pos) (dCB d dA) := by
  obtain ⟨ta, pa, sa⟩ := ha.ex
  exact ⟨_, pe_callTy hc hg hm hv pa hn hdb he hpl, sim_cb h sa⟩
/-- methods of built-in types -/
def vTy (T : String) (w : W) (S : Sto) : Prop := match w with
  | .str _ => T = "str"
  | .ref i => (T = "list" ∧ ∃ ws, S[i]? = some (.lst ws)) ∨ (T = "dict" ∧ ∃ ws, S[i]? = some (.dk ws))
  | .lit _ => T = "list"
  | _ => False
theorem ty_sim {K : Fg} {r : List Addr} {H : Hp} {S : Sto} {v : V} {w : W} (R : RelS K r H S) (p : Rep K r H v w) (h : vTy T w S) : tyV K T v H := by
  cases p with
  | str x => exact h
  | lit q l => exact .inl ⟨h, _, q.1⟩
  | @ref a i q =>
    rcases h with ⟨h, ws, e⟩ | ⟨h, ws, e⟩
    · obtain ⟨xs, h1, _⟩ := R.obj i _ _ q e
      exact .inl ⟨h, _, .of h1⟩
    · obtain ⟨xs, h1, _⟩ := R.obj i _ _ q e
      exact .inr (.inr (.inl ⟨h, .inl ⟨_, h1⟩⟩))
  | _ => exact h.elim
def dBM (T : String) (d : W → List W → Sto → WK → Prop) (da : DE) (dr : DA) : DE := fun env S Q => da env S fun x S1 => vTy T x S1 ∧ dr env S1 fun ws S2 => d x ws S2 Q
def dBM0 (T : String) (d : W → List W → Sto → WK → Prop) (da : DE) : DE := fun env S Q => da env S fun x S1 => vTy T x S1 ∧ d x [] S1 Q
variable {name : Str} {apos cpos : Pos}
theorem xe_bm {t : V → List V → Hp → VK → Prop} {d : W → List W → Sto → WK → Prop} (pa : PlainAttrs T) (slot : Slot T name id) (hty : typeOf (.builtin id) = pure (.type "method_descriptor")) (hm : MtR X id t) (h : SimM X.K t d) (ho : XE X o da) (ha : XA X (e :: es) dA)
    (hbase : attributeBase o name X.env (eval o X.env) = eval o X.env := by rfl)
    (hfew : ((backTo cpos (starEach (e :: es) X.env)).all (fun x => !x.1) && (backToKw cpos (keywordEach [] X.env)).all (fun x => x.1.isSome)
      && decide ((e :: es).length + ([] : List Keyword).length + (if ([] : List Keyword).isEmpty then 0 else 1) < 30)) = true := by rfl)
    (hline : (apos.endLine == cpos.line) = true := by rfl) (hs : starEach (e :: es) X.env = (false, eval e X.env) :: starEach es X.env := by rfl) (hplain : (backTo cpos (starEach es X.env)).any (·.1) = false := by rfl) :
    XE X (.Call (.Attribute o name apos) (e :: es) [] cpos) (dBM T d da dA) := by
  obtain ⟨ta, p1, sa⟩ := ho.ex
  obtain ⟨tr, p2, sr⟩ := ha.ex
  refine ⟨_, pe_bm pa slot hty hm p1 p2 hbase hfew hline hs hplain, fun r H S s env Q Q0 R E g k => ?_⟩
  refine sa r H S s env _ _ R E g fun r1 H1 S1 v w e1 R1 q1 d1 => ⟨ty_sim R1 q1 d1.1, ?_⟩
  refine sr r1 H1 S1 s env _ _ R1 (E.mono e1) d1.2 fun r2 H2 S2 vs ws e2 R2 q2 d2 => ?_
  exact h r2 H2 S2 v vs w ws Q Q0 R2 (q1.mono e2) q2 d2 fun r3 H3 S3 x y e3 => k r3 H3 S3 x y ((e1.trans e2).trans e3)
theorem xe_bm0 {t : V → List V → Hp → VK → Prop} {d : W → List W → Sto → WK → Prop} (pa : PlainAttrs T) (slot : Slot T name id) (hty : typeOf (.builtin id) = pure (.type "method_descriptor")) (hm : MtR X id t) (h : SimM X.K t d) (ho : XE X o da)
    (hbase : attributeBase o name X.env (eval o X.env) = eval o X.env := by rfl) (hline : (apos.endLine == cpos.line) = true := by rfl) : XE X (.Call (.Attribute o name apos) [] [] cpos) (dBM0 T d da) := by
  obtain ⟨ta, p1, sa⟩ := ho.ex
  refine ⟨_, pe_bm0 pa slot hty hm p1 hbase hline, fun r H S s env Q Q0 R E g k => ?_⟩
  refine sa r H S s env _ _ R E g fun r1 H1 S1 v w e1 R1 q1 d1 => ⟨ty_sim R1 q1 d1.1, ?_⟩
  exact h r1 H1 S1 v [] w [] Q Q0 R1 q1 .nil d1.2 fun r3 H3 S3 x y e3 => k r3 H3 S3 x y (e1.trans e3)
/-! ### subscripts, slices -/
theorem xe_ix {t : R2} {d : W → W → Sto → WK → Prop} (hr : IxR X t) (h : SimR X.K t d) (ha : XE X a da) (hb : XE X b db) (hs : PlainIx b := by exact fun _ _ => rfl) : XE X (.Subscript a b pos) (dOp d da db) := by
  obtain ⟨ta, p1, s1⟩ := ha.ex
  obtain ⟨tb, p2, s2⟩ := hb.ex
  exact ⟨_, pe_ix hr p1 p2 hs, sim_op h s1 s2⟩
abbrev DO := Slots → Sto → (Option Int → Sto → Prop) → Prop
def SimO (K : Fg) (t : TO) (d : DO) : Prop := ∀ (r : List Addr) (H : Hp) (S : Sto) (s : L2.St) (env : Slots) (Q : Option Int → Sto → Prop) (Q0 : Option Int → Hp → Prop), RelS K r H S → RepE K r H s env → d env S Q →
  (∀ r' H' S' i, Ext K r H r' H' → RelS K r' H' S' → Q i S' → Q0 i H') → t s H Q0
structure XO (X : Cx) (e : Option Expr) (d : DO) : Prop where
  ex : ∃ t, PO X e t ∧ SimO X.K t d
def oNone : DO := fun _ S Q => Q none S
def oSome (d : DE) : DO := fun env S Q => d env S fun w S1 => ∃ i, w = .int i ∧ Q (some i) S1
theorem xo_none : XO X none oNone := ⟨_, po_none, fun r H S s env Q Q0 R E g k => k r H S none .refl R g⟩
theorem xo_some (ha : XE X a da) : XO X (some a) (oSome da) := by
  obtain ⟨ta, p1, s1⟩ := ha.ex
  refine ⟨_, po_some p1, fun r H S s env Q Q0 R E g k => ?_⟩
  refine s1 r H S s env _ _ R E g fun r1 H1 S1 v w e1 R1 q1 d1 => ?_
  obtain ⟨i, rfl, d1⟩ := d1
  cases q1
  exact ⟨i, rfl, k r1 H1 S1 _ e1 R1 d1⟩
def SimSl (K : Fg) (t : V → Option Int → Option Int → Hp → VK → Prop) (d : W → Option Int → Option Int → Sto → WK → Prop) : Prop := ∀ (r : List Addr) (H : Hp) (S : Sto) (x : V) (wx : W) (lo hi : Option Int) (Q : WK) (Q0 : VK), RelS K r H S → Rep K r H x wx → d wx lo hi S Q →
  (∀ r' H' S' v w, Ext K r H r' H' → RelS K r' H' S' → Rep K r' H' v w → Q w S' → Q0 v H') → t x lo hi H Q0
def dSl (d : W → Option Int → Option Int → Sto → WK → Prop) (da : DE) (dl dh : DO) : DE := fun env S Q => da env S fun x S1 => dl env S1 fun l S2 => dh env S2 fun u S3 => d x l u S3 Q
theorem xe_slice {lo hi : Option Expr} {p2 : Pos} {dl dh : DO} {t : V → Option Int → Option Int → Hp → VK → Prop} {d : W → Option Int → Option Int → Sto → WK → Prop} (hr : SlR X t) (h : SimSl X.K t d) (ha : XE X a da) (hl : XO X lo dl) (hu : XO X hi dh) : XE X (.Subscript a (.Slice lo hi none p2) pos) (dSl d da dl dh) := by
  obtain ⟨ta, p1, s1⟩ := ha.ex
  obtain ⟨tl, q1, u1⟩ := hl.ex
  obtain ⟨th, q2, u2⟩ := hu.ex
  refine ⟨_, pe_slice hr p1 q1 q2, fun r H S s env Q Q0 R E g k => ?_⟩
  refine s1 r H S s env _ _ R E g fun r1 H1 S1 v w e1 R1 z1 d1 => ?_
  refine u1 r1 H1 S1 s env _ _ R1 (E.mono e1) d1 fun r2 H2 S2 i e2 R2 d2 => ?_
  refine u2 r2 H2 S2 s env _ _ R2 (E.mono (e1.trans e2)) d2 fun r3 H3 S3 j e3 R3 d3 => ?_
  exact h r3 H3 S3 v w i j Q Q0 R3 (z1.mono (e2.trans e3)) d3 fun r4 H4 S4 x y e4 => k r4 H4 S4 x y (((e1.trans e2).trans e3).trans e4)
end
end DL

/-! DLc: statements, targets, loops, comprehensions, defs. -/
namespace DL
open PySem PySem.Spec PyProof.Rows L2

section
variable {X : Cx} {pos : Pos} {e : Expr} {es : List Expr} {st : Stmt} {rest body : List Stmt} {t u : DS} {de : DE}
def dNext : DS := fun D env S => D.nx env S
def dSeq (t u : DS) : DS := fun D env S => t { D with nx := u D } env S
def dBreak : DS := fun D env S => D.bk env S
def dCont : DS := fun D env S => D.ct env S
theorem xss_nil : XSs X [] dNext := ⟨_, pss_nil, fun r H S s env D' D R E d k => k.nx r H S s env .refl R E d⟩
theorem xss_cons (h1 : XS X st t) (h2 : XSs X rest u) : XSs X (st :: rest) (dSeq t u) := by
  obtain ⟨t1, p1, s1⟩ := h1.ex
  obtain ⟨t2, p2, s2⟩ := h2.ex
  refine ⟨_, pss_cons p1 p2, fun r H S s env D' D R E d k => ?_⟩
  exact s1 r H S s env _ _ R E d ⟨fun r1 H1 S1 s1' env1 e1 R1 E1 q => s2 r1 H1 S1 s1' env1 D' D R1 E1 q (k.mono e1), k.rt, k.bk, k.ct⟩
theorem xss_one (h1 : XS X st t) : XSs X [st] t := by
  obtain ⟨t1, p1, s1⟩ := h1.ex
  exact ⟨_, pss_one p1, s1⟩
theorem xs_pass : XS X (.Pass pos) dNext := ⟨_, ps_pass, fun r H S s env D' D R E d k => k.nx r H S s env .refl R E d⟩
theorem xs_break : XS X (.Break pos) dBreak := ⟨_, ps_break, fun r H S s env D' D R E d k => k.bk r H S s env .refl R E d⟩
theorem xs_continue : XS X (.Continue pos) dCont := ⟨_, ps_continue, fun r H S s env D' D R E d k => k.ct r H S s env .refl R E d⟩
theorem xs_doc {x j pos'} : XS X (.Expr (.Constant (.str x) j pos) pos') dNext := ⟨_, ps_doc, fun r H S s env D' D R E d k => k.nx r H S s env .refl R E d⟩
def dNever : DS := fun _ _ _ => False
theorem xs_never : XS X st dNever := ⟨_, ps_never, fun _ _ _ _ _ _ _ _ _ d _ => d.elim⟩
theorem xss_never : XSs X body dNever := ⟨_, pss_never, fun _ _ _ _ _ _ _ _ _ d _ => d.elim⟩
def dDrop (d : DE) : DS := fun D env S => d env S fun _ S1 => D.nx env S1
theorem xs_expr (h : XE X e de) (hs : swapsWith e none pos.line X.env = pure false := by rfl) : XS X (.Expr e pos) (dDrop de) := by
  obtain ⟨t1, p1, s1⟩ := h.ex
  refine ⟨_, ps_expr p1 hs, fun r H S s env D' D R E d k => ?_⟩
  exact s1 r H S s env _ _ R E d fun r1 H1 S1 v w e1 R1 q1 d1 => k.nx r1 H1 S1 s env e1 R1 (E.mono e1) d1
def dRet (d : DE) : DS := fun D env S => d env S D.rt
theorem xs_ret (h : XE X e de) : XS X (.Return (some e) pos) (dRet de) := by
  obtain ⟨t1, p1, s1⟩ := h.ex
  refine ⟨_, ps_ret p1, fun r H S s env D' D R E d k => ?_⟩
  exact s1 r H S s env _ _ R E d fun r1 H1 S1 v w e1 R1 q1 d1 => k.rt r1 H1 S1 v w e1 R1 q1 d1
def dRetN : DS := fun D _ S => D.rt .non S
theorem xs_retN : XS X (.Return none pos) dRetN := ⟨_, ps_retN, fun r H S s env D' D R E d k => k.rt r H S _ _ .refl R .non d⟩
def dIfS (c : DT) (t u : DS) : DS := fun D env S => c env S fun b S1 => if b = true then t D env S1 else u D env S1
theorem xs_if {c : Expr} {a b : List Stmt} {dc : DT} (hc : XT X c dc) (ha : XSs X a t) (hb : XSs X b u) : XS X (.If c a b pos) (dIfS dc t u) := by
  obtain ⟨t0, p0, s0⟩ := hc.ex
  obtain ⟨t1, p1, s1⟩ := ha.ex
  obtain ⟨t2, p2, s2⟩ := hb.ex
  refine ⟨_, ps_if p0 p1 p2, fun r H S s env D' D R E d k => ?_⟩
  refine s0 r H S s env _ _ R E d fun r1 H1 S1 c e1 R1 d1 => ?_
  cases c with
  | true =>
    rw [if_pos rfl] at d1 ⊢
    exact s1 r1 H1 S1 s env D' D R1 (E.mono e1) d1 (k.mono e1)
  | false =>
    rw [if_neg Bool.false_ne_true] at d1 ⊢
    exact s2 r1 H1 S1 s env D' D R1 (E.mono e1) d1 (k.mono e1)
/-! ### targets -/
abbrev DGs := List W → Slots → Sto → (Slots → Sto → Prop) → Prop
def SimGs (K : Fg) (t : TGs) (d : DGs) : Prop := ∀ (r : List Addr) (H : Hp) (S : Sto) (s : L2.St) (env : Slots) (vs : List V) (ws : List W) (Q : Slots → Sto → Prop) (Q0 : L2.St → Hp → Prop), RelS K r H S → RepE K r H s env → RepL K r H vs ws → d ws env S Q →
  (∀ r' H' S' s' env', Ext K r H r' H' → RelS K r' H' S' → RepE K r' H' s' env' → Q env' S' → Q0 s' H') → t vs s H Q0
structure XGs (X : Cx) (tg : List Expr) (d : DGs) : Prop where
  ex : ∃ t, PGs X tg t ∧ SimGs X.K t d
def gNm (i : Nat) : DG := fun w env S Q => Q (env.set i (some w)) S
theorem xg_name {x : Str} (i : Nat) (hN : X.N.Nodup) (hi : X.N[i]? = some x := by rfl) (hx : Loc X.env.scope x := by first | exact Or.inl rfl | exact Or.inr rfl) (hf : X.fn x = true ∨ X.env.scope.names.lookup x = some .local := by first | exact .inl rfl | exact .inr rfl) : XG X (.Name x pos) (gNm i) :=
  ⟨_, pg_name hN hi hx hf, fun r H S s env v w Q Q0 R E p d k => k r H S _ _ .refl R (E.set p i) d⟩
def gN0 : DGs := fun ws env S Q => ws = [] ∧ Q env S
def gC (g : DG) (gs : DGs) : DGs := fun ws env S Q => ∃ w ws', ws = w :: ws' ∧ g w env S fun env1 S1 => gs ws' env1 S1 Q
theorem xgs_nil : XGs X [] gN0 := ⟨_, pgs_nil, fun r H S s env vs ws Q Q0 R E p d k => by
  obtain ⟨rfl, d⟩ := d
  cases p
  exact ⟨rfl, k r H S _ _ .refl R E d⟩⟩
theorem xgs_cons {g : DG} {gs : DGs} (h1 : XG X e g) (h2 : XGs X es gs) (hs : (assignEach (e :: es) X.env).map (·.2) = assign e X.env :: (assignEach es X.env).map (·.2) := by rfl) : XGs X (e :: es) (gC g gs) := by
  obtain ⟨t1, p1, s1⟩ := h1.ex
  obtain ⟨t2, p2, s2⟩ := h2.ex
  refine ⟨_, pgs_cons p1 p2 hs, fun r H S s env vs ws Q Q0 R E p d k => ?_⟩
  obtain ⟨w, ws', rfl, d⟩ := d
  cases p with
  | cons q l =>
    refine ⟨_, _, rfl, ?_⟩
    refine s1 r H S s env _ _ _ _ R E q d fun r1 H1 S1 s1' env1 e1 R1 E1 d1 => ?_
    exact s2 r1 H1 S1 s1' env1 _ _ _ _ R1 E1 (l.mono e1) d1 fun r2 H2 S2 x y e2 => k r2 H2 S2 x y (e1.trans e2)
def gTp (n : Nat) (gs : DGs) : DG := fun w env S Q => ∃ ws, w = .tup ws ∧ ws.length = n ∧ gs ws env S Q
theorem xg_tup {k n : Nat} {gs : DGs} (hc : X.calm = true) (h : XGs X es gs) (hn : (assignEach es X.env).length = n := by rfl) (hst : (assignEach es X.env).findIdx? (·.1) = none := by rfl) : XG X (.Tuple es k pos) (gTp n gs) := by
  obtain ⟨t1, p1, s1⟩ := h.ex
  refine ⟨_, pg_tup hc p1 hn hst, fun r H S s env v w Q Q0 R E p d k => ?_⟩
  obtain ⟨ws, rfl, hl, d⟩ := d
  cases p with
  | tup q l =>
    exact ⟨_, _, rfl, q, by rw [l.length]; exact hl, s1 r H S s env _ _ _ _ R E l d k⟩
/-- o[i] = v -/
def SimSet (K : Fg) (t : TSet) (d : W → W → W → Sto → (Sto → Prop) → Prop) : Prop := ∀ (r : List Addr) (H : Hp) (S : Sto) (o i v : V) (wo wi w : W) (Q : Sto → Prop) (Q0 : Hp → Prop), RelS K r H S → Rep K r H o wo → Rep K r H i wi → Rep K r H v w → d wo wi w S Q →
  (∀ r' H' S', Ext K r H r' H' → RelS K r' H' S' → Q S' → Q0 H') → t o i v H Q0
def gSb (do' di : DE) (d : W → W → W → Sto → (Sto → Prop) → Prop) : DG := fun w env S Q => do' env S fun o S1 => di env S1 fun i S2 => d o i w S2 fun S3 => Q env S3
theorem xg_sub {o i : Expr} {d0 d1 : DE} {t : TSet} {d : W → W → W → Sto → (Sto → Prop) → Prop} (hs : PSet X t) (h : SimSet X.K t d) (ho : XE X o d0) (hi : XE X i d1)
    (ha : ∀ v, assign (.Subscript o i pos) X.env v = (do
      let ov ← holding [v] (eval o X.env)
      let iv ← holding [v, ov] (eval i X.env)
      standAt pos
      holding [v, ov, iv] (setItem ov iv v)
      release [v, ov, iv] []) := by intro _; rfl) : XG X (.Subscript o i pos) (gSb d0 d1 d) := by
  obtain ⟨t1, p1, s1⟩ := ho.ex
  obtain ⟨t2, p2, s2⟩ := hi.ex
  refine ⟨_, pg_sub p1 p2 hs ha, fun r H S s env v w Q Q0 R E p g k => ?_⟩
  refine s1 r H S s env _ _ R E g fun r1 H1 S1 x wx e1 R1 q1 g1 => ?_
  refine s2 r1 H1 S1 s env _ _ R1 (E.mono e1) g1 fun r2 H2 S2 y wy e2 R2 q2 g2 => ?_
  exact h r2 H2 S2 x y v wx wy w _ _ R2 (q1.mono e2) q2 (p.mono (e1.trans e2)) g2 fun r3 H3 S3 e3 R3 q3 => k r3 H3 S3 s env ((e1.trans e2).trans e3) R3 (E.mono ((e1.trans e2).trans e3)) q3
def dAsg (d : DE) (g : DG) : DS := fun D env S => d env S fun w S1 => g w env S1 D.nx
theorem sim_asg {K : Fg} {te : TE} {tg : TG} {d : DE} {g : DG} (s1 : Sim K te d) (s2 : SimG K tg g) : SimS K (tAsg te tg) (dAsg d g) := fun r H S s env D' D R E d k =>
  s1 r H S s env _ _ R E d fun r1 H1 S1 v w e1 R1 q1 d1 => s2 r1 H1 S1 s env v w _ _ R1 (E.mono e1) q1 d1 fun r2 H2 S2 s' env' e2 R2 E2 q => k.nx r2 H2 S2 s' env' (e1.trans e2) R2 E2 q
theorem xs_asg {tg : Expr} {g : DG} (he : XE X e de) (hg : XG X tg g) (hs : swapsWithSole [tg] e pos.line X.env = pure false := by rfl) (hw : swappedStores [tg] e X.env = pure none := by rfl)
    (h1 : (assignEach [tg] X.env).map (·.2) = [assign tg X.env] := by rfl) : XS X (.Assign [tg] e pos) (dAsg de g) := by
  obtain ⟨t1, p1, s1⟩ := he.ex
  obtain ⟨t2, p2, s2⟩ := hg.ex
  exact ⟨_, ps_asg p1 p2 hs hw h1, sim_asg s1 s2⟩
theorem xs_set {x : Str} {pos' : Pos} (i : Nat) (hN : X.N.Nodup) (he : XE X e de) (hi : X.N[i]? = some x := by rfl) (hx : Loc X.env.scope x := by first | exact Or.inl rfl | exact Or.inr rfl) (hs : swapsWith e (some (.Name x pos')) pos.line X.env = pure false := by rfl) (hf : X.fn x = true ∨ X.env.scope.names.lookup x = some .local := by first | exact .inl rfl | exact .inr rfl) :
    XS X (.Assign [.Name x pos'] e pos) (dAsg de (gNm i)) := by
  obtain ⟨t1, p1, s1⟩ := he.ex
  exact ⟨_, ps_set hN hi hx p1 hs hf, sim_asg s1 fun r H S s env v w Q Q0 R E p d k => k r H S _ _ .refl R (E.set p i) d⟩
/-- a, b = x, y -/
def dPar (i j : Nat) (da : DA) : DS := fun D env S => da env S fun ws S1 => ∃ v w, ws = [v, w] ∧ D.nx ((env.set i (some v)).set j (some w)) S1
theorem xs_par {x y : Str} {a b : Expr} {da : DA} {px py pt : Pos} {kt k2 pt2} (i j : Nat) (hc : X.calm = true) (hN : X.N.Nodup) (ha : XA X [a, b] da) (hi : X.N[i]? = some x := by rfl) (hj : X.N[j]? = some y := by rfl) (hij : i ≠ j := by decide)
    (hx : X.env.scope.names.lookup x = some .local := by rfl) (hy : X.env.scope.names.lookup y = some .local := by rfl)
    (hw : swappedStores [.Tuple [.Name x px, .Name y py] kt pt] (.Tuple [a, b] k2 pt2) X.env = pure (some [x, y]) := by rfl)
    (hs : swapsWithSole [.Tuple [.Name x px, .Name y py] kt pt] (.Tuple [a, b] k2 pt2) pos.line X.env = pure false := by rfl) :
    XS X (.Assign [.Tuple [.Name x px, .Name y py] kt pt] (.Tuple [a, b] k2 pt2) pos) (dPar i j da) := by
  obtain ⟨t1, p1, s1⟩ := ha.ex
  refine ⟨_, ps_par hc hN hi hj hij hx hy p1 hw hs, fun r H S s env D' D R E d k => ?_⟩
  refine s1 r H S s env _ _ R E d fun r1 H1 S1 vs ws e1 R1 q1 d1 => ?_
  obtain ⟨v, w, rfl, d1⟩ := d1
  cases q1 with
  | cons q l =>
    cases l with
    | cons q' l' =>
      cases l'
      exact ⟨_, _, rfl, k.nx r1 H1 S1 _ _ e1 R1 (((E.mono e1).set q i).set q' j) d1⟩
/-- name op= e -/
def SimIp (K : Fg) (t : TIp) (d : W → W → Sto → WK → Prop) : Prop := SimR K t d
def dAug (i : Nat) (de : DE) (d : W → W → Sto → WK → Prop) : DS := fun D env S => ∃ x, env[i]? = some (some x) ∧ de env S fun y S1 => d x y S1 fun z S2 => D.nx (env.set i (some z)) S2
theorem xs_aug {x : Str} {op : Operator} {t : TIp} {d : W → W → Sto → WK → Prop} {pos' : Pos} (i : Nat) (hN : X.N.Nodup) (ho : PIp X op t) (h : SimR X.K t d) (he : XE X e de) (hi : X.N[i]? = some x := by rfl) (hx : Loc X.env.scope x := by first | exact Or.inl rfl | exact Or.inr rfl)
    (hf : X.fn x = true ∨ X.env.scope.names.lookup x = some .local := by first | exact .inl rfl | exact .inr rfl) : XS X (.AugAssign (.Name x pos') op e pos) (dAug i de d) := by
  obtain ⟨t1, p1, s1⟩ := he.ex
  refine ⟨_, ps_aug hN hi hx p1 ho hf, fun r H S s env D' D R E g k => ?_⟩
  obtain ⟨wx, ex, g⟩ := g
  obtain ⟨v, ev, pv⟩ := E.2 i wx ex
  refine ⟨v, ev, ?_⟩
  refine s1 r H S s env _ _ R E g fun r1 H1 S1 y wy e1 R1 q1 d1 => ?_
  exact h r1 H1 S1 v y wx wy _ _ R1 (pv.mono e1) q1 d1 fun r2 H2 S2 z wz e2 R2 q2 d2 => k.nx r2 H2 S2 _ _ (e1.trans e2) R2 ((E.mono (e1.trans e2)).set q2 i) d2
/-! ### while -/
def dWhile (c : DT) (b : DS) : DS := fun D env S => ∃ W : Nat → Slots → Sto → Prop, (∃ m, W m env S) ∧ ∀ m env S, W m env S →
  c env S fun k S1 => if k = true then b { D with nx := fun e s => ∃ m', m' < m ∧ W m' e s, ct := fun e s => ∃ m', m' < m ∧ W m' e s, bk := D.nx } env S1 else D.nx env S1
theorem xs_while {c : Expr} {dc : DT} (hp : PassesOwn (model X.prog X.w) X.A X.env X.xe) (hc : XT X c dc) (hb : XSs X body t) : XS X (.While c body [] pos) (dWhile dc t) := by
  obtain ⟨t0, p0, s0⟩ := hc.ex
  obtain ⟨t1, p1, s1⟩ := hb.ex
  refine ⟨_, ps_while hp p0 p1, fun r H S s env D' D R E d k => ?_⟩
  obtain ⟨W, ⟨m0, w0⟩, turn⟩ := d
  refine ⟨fun m s H' => ∃ r' S' env', Ext X.K r H r' H' ∧ RelS X.K r' H' S' ∧ RepE X.K r' H' s env' ∧ W m env' S', ⟨m0, r, S, env, .refl, R, E, w0⟩, fun m s1' H1 ⟨r1, S1, env1, e1, R1, E1, w1⟩ => ?_⟩
  refine s0 r1 H1 S1 s1' env1 _ _ R1 E1 (turn m env1 S1 w1) fun r2 H2 S2 b e2 R2 d2 => ?_
  cases b with
  | true =>
    rw [if_pos rfl] at d2 ⊢
    refine ⟨fun s H' => ∃ m', m' < m ∧ ∃ r' S' env', Ext X.K r H r' H' ∧ RelS X.K r' H' S' ∧ RepE X.K r' H' s env' ∧ W m' env' S', fun s' H' h => h, ?_⟩
    refine s1 r2 H2 S2 s1' env1 _ _ R2 (E1.mono e2) d2 ⟨?_, fun r3 H3 S3 v w e3 => k.rt r3 H3 S3 v w ((e1.trans e2).trans e3), fun r3 H3 S3 v w e3 => k.nx r3 H3 S3 v w ((e1.trans e2).trans e3), ?_⟩
    · intro r3 H3 S3 s3 env3 e3 R3 E3 ⟨m', l, w3⟩
      exact ⟨m', l, r3, S3, env3, (e1.trans e2).trans e3, R3, E3, w3⟩
    · intro r3 H3 S3 s3 env3 e3 R3 E3 ⟨m', l, w3⟩
      exact ⟨m', l, r3, S3, env3, (e1.trans e2).trans e3, R3, E3, w3⟩
  | false =>
    rw [if_neg Bool.false_ne_true] at d2 ⊢
    exact k.nx r2 H2 S2 s1' env1 (e1.trans e2) R2 (E1.mono e2) d2
/-! ### what a loop walks -/
structure ItOk (K : Fg) (J : It) (its : List W) (still : Sto → Prop) (r0 : List Addr) (H0 : Hp) : Prop where
  go : ∀ r H S i x, Kp K r0 H0 r H → RelS K r H S → still S → its[i]? = some x → J.go i H ∧ ∀ v H', J.yld i H v H' → Ext K r H r H' ∧ RelS K r H' S ∧ Rep K r H' v x
  stop : ∀ r H S i, Kp K r0 H0 r H → RelS K r H S → still S → its.length ≤ i → J.stop i H
abbrev DI := Slots → Sto → (List W → (Sto → Prop) → Sto → Prop) → Prop
def SimI (K : Fg) (t : TI) (d : DI) : Prop := ∀ (r : List Addr) (H : Hp) (S : Sto) (s : L2.St) (env : Slots) (Q : List W → (Sto → Prop) → Sto → Prop) (Q0 : It → Hp → Prop), RelS K r H S → RepE K r H s env → d env S Q →
  (∀ r' H' S' J its still, Ext K r H r' H' → RelS K r' H' S' → ItOk K J its still r' H' → Q its still S' → Q0 J H') → t s H Q0
structure XI (X : Cx) (tg it : Expr) (d : DI) : Prop where
  ex : ∃ t, PI X tg it t ∧ SimI X.K t d
def forW (g : DG) (b : DS) (still : Sto → Prop) : List W → DS
  | [] => fun D env S => still S ∧ D.nx env S
  | x :: r => fun D env S => still S ∧ g x env S fun env2 S2 => b { D with nx := forW g b still r D, ct := forW g b still r D, bk := D.nx } env2 S2
def dFor (di : DI) (g : DG) (b : DS) : DS := fun D env S => di env S fun its still S1 => forW g b still its D env S1
theorem xs_for {iter tg : Expr} {di : DI} {g : DG} (hp : PassesOwn (model X.prog X.w) X.A X.env X.xe) (hc : X.calm = true) (hi : XI X tg iter di) (hg : XG X tg g) (hb : XSs X body t)
    (hs : ∀ x, foldedSetIterable iter X.env x = pure x := by intro _; rfl) : XS X (.For tg iter body [] pos) (dFor di g t) := by
  obtain ⟨t0, p0, s0⟩ := hi.ex
  obtain ⟨t1, p1, s1⟩ := hg.ex
  obtain ⟨t2, p2, s2⟩ := hb.ex
  refine ⟨_, ps_for hp hc p0 p1 p2 hs, fun r H S s env D' D R E d k => ?_⟩
  refine s0 r H S s env _ _ R E d fun r1 H1 S1 J its still e1 R1 ok d1 => ?_
  refine ⟨fun i m s' H' => i + m = its.length ∧ ∃ r' S' env', Ext X.K r1 H1 r' H' ∧ RelS X.K r' H' S' ∧ RepE X.K r' H' s' env' ∧ forW g t still (its.drop i) D' env' S', ⟨its.length, by omega, r1, S1, env, .refl, R1, E.mono e1, d1⟩, ?_⟩
  rintro i m s' H' ⟨hm, r', S', env', e', R', E', d'⟩
  cases hx : its[i]? with
  | none =>
    have hl : its.length ≤ i := List.getElem?_eq_none_iff.mp hx
    rw [List.drop_of_length_le hl] at d'
    obtain ⟨hst, d'⟩ := d'
    exact .inl ⟨ok.stop r' H' S' i e'.toKp R' hst hl, k.nx r' H' S' s' env' (e1.trans e') R' E' d'⟩
  | some x =>
    obtain ⟨hl, ex⟩ := List.getElem?_eq_some_iff.mp hx
    rw [List.drop_eq_getElem_cons hl, ex] at d'
    obtain ⟨hst, d'⟩ := d'
    obtain ⟨go, yl⟩ := ok.go r' H' S' i x e'.toKp R' hst hx
    refine .inr ⟨go, fun s3 H3 => ∃ r3 S3 env3, Ext X.K r1 H1 r3 H3 ∧ RelS X.K r3 H3 S3 ∧ RepE X.K r3 H3 s3 env3 ∧ forW g t still (its.drop (i + 1)) D' env3 S3, fun s3 H3 h3 => ⟨m - 1, by omega, by omega, h3⟩, fun v H3 hy => ?_⟩
    obtain ⟨e3, R3, q3⟩ := yl v H3 hy
    refine s1 r' H3 S' s' env' v x _ _ R3 (E'.mono e3) q3 d' fun r4 H4 S4 s4 env4 e4 R4 E4 d4 => ?_
    have e14 := (e'.trans e3).trans e4
    refine s2 r4 H4 S4 s4 env4 _ _ R4 E4 d4 ⟨?_, fun r5 H5 S5 v w e5 => k.rt r5 H5 S5 v w ((e1.trans e14).trans e5), fun r5 H5 S5 v w e5 => k.nx r5 H5 S5 v w ((e1.trans e14).trans e5), ?_⟩
    · intro r5 H5 S5 s5 env5 e5 R5 E5 q5
      exact ⟨r5, S5, env5, e14.trans e5, R5, E5, q5⟩
    · intro r5 H5 S5 s5 env5 e5 R5 E5 q5
      exact ⟨r5, S5, env5, e14.trans e5, R5, E5, q5⟩
/-- a list, a tuple -/
def tSeqI (K : Fg) (tl : TE) : TI := fun s H R => tl s H fun x H1 => ∃ a, x = .ref a ∧ (((∃ xs, SqL K H1 a xs) ∧ R (Itl K a) H1) ∨ ((∃ xs, SqT K H1 a xs) ∧ R (Itt K a) H1))
theorem pi_seq {tg l : Expr} {tl : TE} (hl : PE X l tl) : PI X tg l (tSeqI X.K tl) := by
  refine ⟨fun pins s σ H R I h => ?_⟩
  refine thn (hl.run pins s σ H _ I h) fun v s1 ⟨x, H1, I1, r1, q1⟩ => ?_
  obtain ⟨a, e, q⟩ := q1
  subst e
  cases r1
  rcases q with ⟨⟨xs, hq⟩, q⟩ | ⟨⟨xs, hq⟩, q⟩
  · obtain ⟨its, rv, p, hz⟩ := I1.list hq
    refine wpAny_pyIter_list p.isList ?_
    refine ⟨s1.heap.objs.size, [s1.heap.objs.size], _, _, H1, rfl, I1.kept (t' := s1.toks) fun b o e => Heap.get?_push_of_some _ e, turn_list a _, ⟨_, Heap.get?_push_size _ rfl, rfl, rfl⟩, fun b hb => ?_, q⟩
    have e : b = s1.heap.objs.size := by simpa using hb
    subst e
    exact I1.fpOk (Nat.le_refl _) (I1.hok.fresh (Nat.le_refl _))
  · obtain ⟨its, rv, p, hz⟩ := I1.tuple hq
    refine wpAny_pyIter_tuple (show s1.heap.IsTuple a its.toArray from p) ?_
    refine ⟨s1.heap.objs.size, [s1.heap.objs.size], _, _, H1, rfl, I1.kept (t' := s1.toks) fun b o e => Heap.get?_push_of_some _ e, turn_tuple a _, ⟨_, Heap.get?_push_size _ rfl, rfl, rfl⟩, fun b hb => ?_, q⟩
    have e : b = s1.heap.objs.size := by simpa using hb
    subst e
    exact I1.fpOk (Nat.le_refl _) (I1.hok.fresh (Nat.le_refl _))
def vSeqI (w : W) (S : Sto) (Q : List W → (Sto → Prop) → Sto → Prop) : Prop := match w with
  | .tup ws => Q ws (fun _ => True) S
  | .lit ws => Q ws (fun _ => True) S
  | .ref i => ∃ ws, S[i]? = some (.lst ws) ∧ Q ws (fun S' => S'[i]? = some (.lst ws)) S
  | _ => False
def iSeq (d : DE) : DI := fun env S Q => d env S fun w S1 => vSeqI w S1 Q
theorem seqAt_ok {K : Fg} {r : List Addr} {H : Hp} {S : Sto} {v : V} {w : W} {Q : List W → (Sto → Prop) → Sto → Prop} (R : RelS K r H S) (p : Rep K r H v w) (h : vSeqI w S Q) :
    ∃ a, v = .ref a ∧ ∃ its still, Q its still S ∧ (((∃ xs, SqL K H a xs) ∧ ItOk K (Itl K a) its still r H) ∨ ((∃ xs, SqT K H a xs) ∧ ItOk K (Itt K a) its still r H)) := by
  cases p with
  | @tup a xs ws q l =>
    refine ⟨a, rfl, _, _, h, .inr ⟨⟨_, q⟩, ⟨fun r' H' S' i x e' R' _ hx => ?_, fun r' H' S' i e' R' _ hl => ⟨_, e'.tup _ _ q, by rw [l.length]; exact hl⟩⟩⟩⟩
    obtain ⟨u, hu, pu⟩ := l.get hx
    refine ⟨⟨_, _, e'.tup _ _ q, hu⟩, fun v H3 hy => ?_⟩
    obtain ⟨rfl, f⟩ := hy
    have := Option.some.inj ((f _ (e'.tup _ _ q)).symm.trans hu)
    subst this
    exact ⟨.refl, R', pu.mono' e'⟩
  | @lit a xs ws q l =>
    refine ⟨a, rfl, _, _, h, .inl ⟨⟨_, q.1⟩, ⟨fun r' H' S' i x e' R' _ hx => ?_, fun r' H' S' i e' R' _ hl => ⟨_, (q.mono e').1, by rw [l.length]; exact hl⟩⟩⟩⟩
    obtain ⟨u, hu, pu⟩ := l.get hx
    refine ⟨⟨_, _, (q.mono e').1, hu⟩, fun v H3 hy => ?_⟩
    obtain ⟨rfl, f⟩ := hy
    have := Option.some.inj ((f _ (q.mono e').1).symm.trans hu)
    subst this
    exact ⟨.refl, R', pu.mono' e'⟩
  | @ref a i q =>
    obtain ⟨ws, hs, h⟩ := h
    obtain ⟨xs, h1, l⟩ := R.obj i a _ q hs
    refine ⟨a, rfl, _, _, h, .inl ⟨⟨_, .of h1⟩, ⟨fun r' H' S' j x e' R' st hx => ?_, fun r' H' S' j e' R' st hl => ?_⟩⟩⟩
    · obtain ⟨ys, h2, l2⟩ := R'.obj i a _ (e'.pre _ _ q) st
      obtain ⟨u, hu, pu⟩ := l2.get hx
      refine ⟨⟨_, _, .of h2, hu⟩, fun v H3 hy => ?_⟩
      obtain ⟨rfl, f⟩ := hy
      have := Option.some.inj ((f _ (.of h2)).symm.trans hu)
      subst this
      exact ⟨.refl, R', pu⟩
    · obtain ⟨ys, h2, l2⟩ := R'.obj i a _ (e'.pre _ _ q) st
      exact ⟨_, .of h2, by rw [l2.length]; exact hl⟩
  | _ => exact h.elim
theorem xi_seq {tg l : Expr} {d : DE} (h : XE X l d) : XI X tg l (iSeq d) := by
  obtain ⟨t, p, s⟩ := h.ex
  refine ⟨_, pi_seq p, fun r H S st env Q Q0 R E g k => ?_⟩
  refine s r H S st env _ _ R E g fun r1 H1 S1 v w e1 R1 q1 d1 => ?_
  obtain ⟨a, rfl, its, still, q, h⟩ := seqAt_ok R1 q1 d1
  refine ⟨a, rfl, ?_⟩
  rcases h with ⟨hx, ok⟩ | ⟨hx, ok⟩
  · exact .inl ⟨hx, k r1 H1 S1 _ its still e1 R1 ok q⟩
  · exact .inr ⟨hx, k r1 H1 S1 _ its still e1 R1 ok q⟩
/-- range -/
def rngW (lo : Int) (n : Nat) : List W := (List.range n).map fun (i : Nat) => W.int (lo + (i : Int))
theorem rng_ok {K : Fg} {lo : Int} {n : Nat} {r : List Addr} {H : Hp} : ItOk K (Itr lo n) (rngW lo n) (fun _ => True) r H := by
  refine ⟨fun r' H' S' i x e R _ hx => ?_, fun r' H' S' i e R _ hl => ?_⟩
  · unfold rngW at hx
    rw [List.getElem?_map] at hx
    by_cases hi : i < n
    · rw [List.getElem?_range hi] at hx
      have e2 : W.int (lo + (i : Int)) = x := Option.some.inj hx
      subst e2
      refine ⟨hi, fun v H3 hy => ?_⟩
      obtain ⟨rfl, rfl⟩ := hy
      exact ⟨.refl, R, .int _⟩
    · rw [List.getElem?_eq_none (by rw [List.length_range]; omega)] at hx
      cases hx
  · unfold rngW at hl
    rw [List.length_map, List.length_range] at hl
    exact hl
def iRng1 (da : DA) : DI := fun env S Q => da env S fun ws S1 => ∃ j : Int, ws = [.int j] ∧ -(2 ^ 62) ≤ j ∧ j < 2 ^ 62 ∧ Q (rngW 0 j.toNat) (fun _ => True) S1
def iRng2 (da : DA) : DI := fun env S Q => da env S fun ws S1 => ∃ i j : Int, ws = [.int i, .int j] ∧ (-(2 ^ 62) ≤ i ∧ i < 2 ^ 62 ∧ -(2 ^ 62) ≤ j ∧ j < 2 ^ 62) ∧ Q (rngW i (j - i).toNat) (fun _ => True) S1
theorem xi_range1 {tg a : Expr} {da : DA} {p : Pos} (hg : Gl X "range") (hm : X.mg "range" = none) (ha : XA X [a] da) (hs : starEach [a] X.env = [(false, eval a X.env)] := by rfl) : XI X tg (.Call (.Name "range" p) [a] [] pos) (iRng1 da) := by
  obtain ⟨t, p, s⟩ := ha.ex
  refine ⟨_, pi_range1 hg hm p hs, fun r H S st env Q Q0 R E g k => ?_⟩
  refine s r H S st env _ _ R E g fun r1 H1 S1 vs ws e1 R1 q1 d1 => ?_
  obtain ⟨j, rfl, h1, h2, q⟩ := d1
  cases q1 with
  | cons a b =>
    cases b
    cases a
    exact ⟨j, rfl, h1, h2, k r1 H1 S1 _ _ _ e1 R1 rng_ok q⟩
theorem xi_range2 {tg a b : Expr} {da : DA} {p : Pos} (hg : Gl X "range") (hm : X.mg "range" = none) (ha : XA X [a, b] da) (hs : starEach [a, b] X.env = [(false, eval a X.env), (false, eval b X.env)] := by rfl) (hs2 : starEach [b] X.env = [(false, eval b X.env)] := by rfl) : XI X tg (.Call (.Name "range" p) [a, b] [] pos) (iRng2 da) := by
  obtain ⟨t, p, s⟩ := ha.ex
  refine ⟨_, pi_range2 hg hm p hs hs2, fun r H S st env Q Q0 R E g k => ?_⟩
  refine s r H S st env _ _ R E g fun r1 H1 S1 vs ws e1 R1 q1 d1 => ?_
  obtain ⟨i, j, rfl, h1, q⟩ := d1
  cases q1 with
  | cons a b =>
    cases b with
    | cons b c =>
      cases c
      cases a
      cases b
      exact ⟨i, j, rfl, h1, k r1 H1 S1 _ _ _ e1 R1 rng_ok q⟩
/-! ### list comprehensions -/
/-- a comprehension's target: it stores its own slots alone -/
def OwnG (t : TG) (vs : List Nat) : Prop := ∀ v s H (Q Q0 : L2.St → Hp → Prop) s0, wipe s vs = wipe s0 vs → t v s H Q → (∀ s2 H2, wipe s2 vs = wipe s0 vs → Q s2 H2 → Q0 s2 H2) → t v s H Q0
def OwnGs (t : TGs) (vs : List Nat) : Prop := ∀ v s H (Q Q0 : L2.St → Hp → Prop) s0, wipe s vs = wipe s0 vs → t v s H Q → (∀ s2 H2, wipe s2 vs = wipe s0 vs → Q s2 H2 → Q0 s2 H2) → t v s H Q0
theorem wipe_set {s : L2.St} {i : Nat} {x : Option V} : ∀ {vs : List Nat}, i ∈ vs → wipe (s.set i x) vs = wipe s vs
  | v :: vs, h => by
    unfold wipe
    by_cases hv : i ∈ vs
    · rw [wipe_set hv]
    · have e : i = v := by
        rcases List.mem_cons.mp h with e | m
        · exact e
        · exact (hv m).elim
      subst e
      rw [wipe_comm hv, List.set_set]
where wipe_comm {s : L2.St} {i : Nat} {x : Option V} : ∀ {vs : List Nat}, i ∉ vs → wipe (s.set i x) vs = (wipe s vs).set i x
  | [], _ => rfl
  | v :: vs, h => by
    unfold wipe
    rw [wipe_comm (fun m => h (List.mem_cons_of_mem _ m)), List.set_comm]
    intro e
    exact h (by rw [e]; exact List.mem_cons_self)
structure XCG (X : Cx) (vs : List Nat) (tg : Expr) (t : TG) (d : DG) : Prop where
  pg : PG X tg t
  sm : SimG X.K t d
  ow : OwnG t vs
structure XCGs (X : Cx) (vs : List Nat) (tg : List Expr) (t : TGs) (d : DGs) : Prop where
  pg : PGs X tg t
  sm : SimGs X.K t d
  ow : OwnGs t vs
theorem xcg_name {x : Str} {vs : List Nat} (i : Nat) (hN : X.N.Nodup) (hm : i ∈ vs := by decide) (hi : X.N[i]? = some x := by rfl) (hx : Loc X.env.scope x := by first | exact Or.inl rfl | exact Or.inr rfl) (hf : X.fn x = true ∨ X.env.scope.names.lookup x = some .local := by first | exact .inl rfl | exact .inr rfl) : XCG X vs (.Name x pos) (gName i) (gNm i) :=
  ⟨pg_name hN hi hx hf, fun r H S s env v w Q Q0 R E p d k => k r H S _ _ .refl R (E.set p i) d, fun v s H Q Q0 s0 e h k => k _ _ ((wipe_set hm).trans e) h⟩
theorem xcgs_nil {vs : List Nat} : XCGs X vs [] gNil gN0 := ⟨pgs_nil, fun r H S s env vs ws Q Q0 R E p d k => by
  obtain ⟨rfl, d⟩ := d
  cases p
  exact ⟨rfl, k r H S _ _ .refl R E d⟩, fun v s H Q Q0 s0 e h k => ⟨h.1, k _ _ e h.2⟩⟩
theorem xcgs_cons {vs : List Nat} {t : TG} {ts : TGs} {g : DG} {gs : DGs} (h1 : XCG X vs e t g) (h2 : XCGs X vs es ts gs) (hs : (assignEach (e :: es) X.env).map (·.2) = assign e X.env :: (assignEach es X.env).map (·.2) := by rfl) : XCGs X vs (e :: es) (gCons t ts) (gC g gs) := by
  obtain ⟨p1, s1, o1⟩ := h1
  obtain ⟨p2, s2, o2⟩ := h2
  refine ⟨pgs_cons p1 p2 hs, fun r H S s env vs ws Q Q0 R E p d k => ?_, fun v s H Q Q0 s0 ew h k => ?_⟩
  · obtain ⟨w, ws', rfl, d⟩ := d
    cases p with
    | cons q l =>
      refine ⟨_, _, rfl, ?_⟩
      refine s1 r H S s env _ _ _ _ R E q d fun r1 H1 S1 s1' env1 e1 R1 E1 d1 => ?_
      exact s2 r1 H1 S1 s1' env1 _ _ _ _ R1 E1 (l.mono e1) d1 fun r2 H2 S2 x y e2 => k r2 H2 S2 x y (e1.trans e2)
  · obtain ⟨x, xs, rfl, h⟩ := h
    exact ⟨x, xs, rfl, o1 x s H _ _ s0 ew h fun s2 H2 e2 h2 => o2 xs s2 H2 _ _ s0 e2 h2 k⟩
theorem xcg_tup {vs : List Nat} {k n : Nat} {ts : TGs} {gs : DGs} (hc : X.calm = true) (h : XCGs X vs es ts gs) (hn : (assignEach es X.env).length = n := by rfl) (hst : (assignEach es X.env).findIdx? (·.1) = none := by rfl) : XCG X vs (.Tuple es k pos) (gTup X.K n ts) (gTp n gs) := by
  obtain ⟨p1, s1, o1⟩ := h
  refine ⟨pg_tup hc p1 hn hst, fun r H S s env v w Q Q0 R E p d k => ?_, fun v s H Q Q0 s0 ew h k => ?_⟩
  · obtain ⟨ws, rfl, hl, d⟩ := d
    cases p with
    | tup q l =>
      exact ⟨_, _, rfl, q, by rw [l.length]; exact hl, s1 r H S s env _ _ _ _ R E l d k⟩
  · obtain ⟨a, xs, rfl, q, hl, h⟩ := h
    exact ⟨a, xs, rfl, q, hl, o1 xs s H _ _ s0 ew h k⟩
theorem wipe_wipe {s : L2.St} {vs : List Nat} : wipe (wipe s vs) vs = wipe s vs := by
  have h : ∀ us : List Nat, (∀ u ∈ us, u ∈ vs) → wipe (wipe s us) vs = wipe s vs := by
    intro us
    induction us with
    | nil => intro _; rfl
    | cons u us ih =>
      intro hu
      show wipe ((wipe s us).set u none) vs = _
      rw [wipe_set (hu u List.mem_cons_self)]
      exact ih fun w hw => hu w (List.mem_cons_of_mem _ hw)
  exact h vs fun _ hu => hu
def compW (g : DG) (tt : DT) (te : DE) (vs : List Nat) (still : Sto → Prop) (env : Slots) (Q : WK) : List W → List W → Sto → Prop
  | [], acc, S => still S ∧ Q (.ref S.length) (S ++ [.lst acc])
  | x :: r, acc, S => still S ∧ g x (wipeW env vs) S fun env2 S2 => tt env2 S2 fun b S3 => if b = true then te env2 S3 fun y S4 => acc.length < sizeLine ∧ compW g tt te vs still env Q r (acc ++ [y]) S4 else compW g tt te vs still env Q r acc S3
def dComp (di : DI) (g : DG) (tt : DT) (te : DE) (vs : List Nat) : DE := fun env S Q => di env S fun its still S1 => compW g tt te vs still env Q its [] S1
theorem sim_comp {K : Fg} {wi : TI} {tg : TG} {tt : TT} {te : TE} {di : DI} {g : DG} {dt : DT} {de : DE} {vs : List Nat} (si : SimI K wi di) (sg : SimG K tg g) (og : OwnG tg vs) (st : SimT K tt dt) (se : Sim K te de) : Sim K (tLc wi tg tt te vs) (dComp di g dt de vs) := by
  intro r H S s env Q Q0 R E d k
  refine si r H S s env _ _ R E d fun r1 H1 S1 J its still e1 R1 ok d1 => ?_
  intro Dl hD
  have nD := R1.notin hD
  refine ⟨fun i m H' => i + m = its.length ∧ ∃ r' S' acc accv, Ext K r1 H1 r' H' ∧ RelS K r' H' S' ∧ Dl ∉ r' ∧ H' Dl = some (.lst accv) ∧ RepL K r' H' accv acc ∧ compW g dt de vs still env Q (its.drop i) acc S',
    ⟨its.length, by omega, r1, S1, [], [], ext_new hD, rel_new R1 hD, nD, upd_same, .nil, d1⟩, ?_⟩
  rintro i m H' ⟨hm, r', S', acc, accv, e', R', n', hl, ra, d'⟩
  cases hx : its[i]? with
  | none =>
    have hle : its.length ≤ i := List.getElem?_eq_none_iff.mp hx
    rw [List.drop_of_length_le hle] at d'
    obtain ⟨hst, d'⟩ := d'
    exact .inl ⟨ok.stop r' H' S' i e'.toKp R' hst hle, k _ H' _ _ _ (e1.trans (e'.join hD)) (R'.join n' hl ra) (rep_mem R') d'⟩
  | some x =>
    obtain ⟨hlt, ex⟩ := List.getElem?_eq_some_iff.mp hx
    rw [List.drop_eq_getElem_cons hlt, ex] at d'
    obtain ⟨hst, d'⟩ := d'
    obtain ⟨go, yl⟩ := ok.go r' H' S' i x e'.toKp R' hst hx
    refine .inr ⟨go, fun H3 => ∃ r' S' acc accv, Ext K r1 H1 r' H3 ∧ RelS K r' H3 S' ∧ Dl ∉ r' ∧ H3 Dl = some (.lst accv) ∧ RepL K r' H3 accv acc ∧ compW g dt de vs still env Q (its.drop (i + 1)) acc S', fun H3 h3 => ⟨m - 1, by omega, by omega, h3⟩, fun v H3 hy => ?_⟩
    obtain ⟨e3, R3, q3⟩ := yl v H3 hy
    have e13 := e'.trans e3
    obtain ⟨n3, hl3⟩ := e3.apart n' hl
    have E3 := (E.mono (e1.trans e13)).wipe vs
    refine og v (wipe s vs) H3 _ _ (wipe s vs) rfl (sg r' H3 S' (wipe s vs) (wipeW env vs) v x _ (fun s4 H4 => ∃ r4 S4 env4, Ext K r' H3 r4 H4 ∧ RelS K r4 H4 S4 ∧ RepE K r4 H4 s4 env4 ∧ dt env4 S4 fun b S5 => if b = true then de env4 S5 fun y S6 => acc.length < sizeLine ∧ compW g dt de vs still env Q (its.drop (i + 1)) (acc ++ [y]) S6 else compW g dt de vs still env Q (its.drop (i + 1)) acc S5) R3 E3 q3 d' fun r4 H4 S4 s4 env4 e4 R4 E4 d4 => ⟨r4, S4, env4, e4, R4, E4, d4⟩) fun s4 H4 hw h4 => ?_
    obtain ⟨r4, S4, env4, e4, R4, E4, d4⟩ := h4
    refine ⟨by rw [hw, wipe_wipe], ?_⟩
    refine st r4 H4 S4 s4 env4 _ _ R4 E4 d4 fun r5 H5 S5 b e5 R5 d5 => ?_
    have e15 := (e13.trans e4).trans e5
    have e35 := e4.trans e5
    obtain ⟨n5, hl5⟩ := e35.apart n3 hl3
    cases b with
    | true =>
      rw [if_pos rfl] at d5 ⊢
      refine se r5 H5 S5 s4 env4 _ _ R5 (E4.mono e5) d5 fun r6 H6 S6 y w e6 R6 q6 d6 => ?_
      obtain ⟨n6, hl6⟩ := e6.apart n5 hl5
      have ra6 := ra.mono ((e3.trans e35).trans e6)
      refine ⟨accv, hl6, by rw [ra6.length]; exact d6.1, r6, S6, acc ++ [w], accv ++ [y], (e15.trans e6).hid hD hl6 trivial, R6.hid n6 hl6 trivial, n6, upd_same, ?_, d6.2⟩
      exact (ra6.app (.one q6)).mono' (Kp.hid hl6 trivial)
    | false =>
      rw [if_neg Bool.false_ne_true] at d5 ⊢
      exact ⟨r5, S5, acc, accv, e15, R5, n5, hl5, ra.mono (e3.trans e35), d5⟩
/-! a reading that hangs on K alone -/
def canE (K : Fg) (d : DE) : TE := fun s H Q0 => ∃ (r : List Addr) (S : Sto) (env : Slots) (Q : WK), RelS K r H S ∧ RepE K r H s env ∧ d env S Q ∧ ∀ r' H' S' v w, Ext K r H r' H' → RelS K r' H' S' → Rep K r' H' v w → Q w S' → Q0 v H'
def canT (K : Fg) (d : DT) : TT := fun s H Q0 => ∃ (r : List Addr) (S : Sto) (env : Slots) (Q : Bool → Sto → Prop), RelS K r H S ∧ RepE K r H s env ∧ d env S Q ∧ ∀ r' H' S' b, Ext K r H r' H' → RelS K r' H' S' → Q b S' → Q0 b H'
theorem canE_sim {K : Fg} {d : DE} : Sim K (canE K d) d := fun r H S s env Q Q0 R E h k => ⟨r, S, env, Q, R, E, h, k⟩
theorem canT_sim {K : Fg} {d : DT} : SimT K (canT K d) d := fun r H S s env Q Q0 R E h k => ⟨r, S, env, Q, R, E, h, k⟩
theorem XE.pe {d : DE} (h : XE X e d) : PE X e (canE X.K d) := by
  obtain ⟨t, p, s⟩ := h.ex
  exact ⟨fun pins st σ H Q I ⟨r, S, env, Q', R, E, hd, k⟩ => p.run pins st σ H Q I (s r H S σ env Q' Q R E hd k)⟩
structure XTs (X : Cx) (ifs : List Expr) (d : DT) : Prop where
  ex : ∃ tt, PTs X ifs tt ∧ SimT X.K tt d
def dYes : DT := fun _ S Q => Q true S
theorem xts_nil : XTs X [] dYes := ⟨_, pts_nil, fun r H S s env Q Q0 R E d k => k r H S true .refl R d⟩
theorem xts_one {c : Expr} {d : DT} (h : XT X c d) : XTs X [c] d := by
  obtain ⟨t, p, s⟩ := h.ex
  exact ⟨_, pts_one p, s⟩
theorem XTs.pt {ifs : List Expr} {d : DT} (h : XTs X ifs d) : PTs X ifs (canT X.K d) := by
  obtain ⟨t, p, s⟩ := h.ex
  exact ⟨fun pins st σ H Q I ⟨r, S, env, Q', R, E, hd, k⟩ => p.run pins st σ H Q I (s r H S σ env Q' Q R E hd k)⟩
end
section
variable {X : Cx} {pos : Pos}
theorem xe_comp {elt tg iter : Expr} {ifs : List Expr} {scope : Scope} {di : DI} {t : TG} {g : DG} {dt : DT} {de : DE} (own : List (Str × Nat)) (hc : X.calm = true) (hN : X.N.Nodup) (hi : XI X tg iter di) (ok : BlkOk X.N X.env.scope scope own)
    (hg : ∀ (s : Shared) (H : Hp) (C : Addr) (cl : List (Str × Addr)) (fp : List Addr), XCG (X.blk s H scope (compEnvC scope cl C X.env) fp) (own.map (·.2)) tg t g)
    (ht : ∀ (s : Shared) (H : Hp) (C : Addr) (cl : List (Str × Addr)) (fp : List Addr), XTs (X.blk s H scope (compEnvC scope cl C X.env) fp) ifs dt)
    (he : ∀ (s : Shared) (H : Hp) (C : Addr) (cl : List (Str × Addr)) (fp : List Addr), XE (X.blk s H scope (compEnvC scope cl C X.env) fp) elt de)
    (hs : ∀ x, foldedSetIterable iter X.env x = pure x := by intro _; rfl) : XE X (.ListComp elt [⟨tg, iter, ifs, 0⟩] scope pos) (dComp di g dt de (own.map (·.2))) := by
  obtain ⟨wi, p, si⟩ := hi.ex
  have g0 := hg {} (fun _ => none) 0 [] []
  exact ⟨_, pe_lc hc hN p ok (fun s H C cl fp => (hg s H C cl fp).pg) (fun s H C cl fp => (ht s H C cl fp).pt) (fun s H C cl fp => (he s H C cl fp).pe) hs, sim_comp si g0.sm g0.ow canT_sim canE_sim⟩
theorem xs_setComp {y : Str} {py spos : Pos} {elt tg iter : Expr} {ifs : List Expr} {scope : Scope} {di : DI} {t : TG} {g : DG} {dt : DT} {de : DE} (i : Nat) (own : List (Str × Nat)) (hc : X.calm = true) (hN : X.N.Nodup) (hi : XI X tg iter di) (ok : BlkOk X.N X.env.scope scope own)
    (hg : ∀ (s : Shared) (H : Hp) (C : Addr) (cl : List (Str × Addr)) (fp : List Addr), XCG (X.blk s H scope (compEnvC scope cl C X.env) fp) (own.map (·.2)) tg t g)
    (ht : ∀ (s : Shared) (H : Hp) (C : Addr) (cl : List (Str × Addr)) (fp : List Addr), XTs (X.blk s H scope (compEnvC scope cl C X.env) fp) ifs dt)
    (he : ∀ (s : Shared) (H : Hp) (C : Addr) (cl : List (Str × Addr)) (fp : List Addr), XE (X.blk s H scope (compEnvC scope cl C X.env) fp) elt de)
    (hsw : swapsWith (.ListComp elt [⟨tg, iter, ifs, 0⟩] scope pos) (some (.Name y py)) spos.line X.env = pure true) (hy : X.N[i]? = some y := by rfl) (hyl : X.env.scope.names.lookup y = some .local := by rfl) (hs : ∀ x, foldedSetIterable iter X.env x = pure x := by intro _; rfl) :
    XS X (.Assign [.Name y py] (.ListComp elt [⟨tg, iter, ifs, 0⟩] scope pos) spos) (dAsg (dComp di g dt de (own.map (·.2))) (gNm i)) := by
  obtain ⟨wi, p, si⟩ := hi.ex
  have g0 := hg {} (fun _ => none) 0 [] []
  exact ⟨_, ps_setLc hc hN hy hyl hsw p ok (fun s H C cl fp => (hg s H C cl fp).pg) (fun s H C cl fp => (ht s H C cl fp).pt) (fun s H C cl fp => (he s H C cl fp).pe) hs, sim_asg (sim_comp si g0.sm g0.ow canT_sim canE_sim) fun r H S s env v w Q Q0 R E p d k => k r H S _ _ .refl R (E.set p i) d⟩
/-! ### defs -/
abbrev DSpec := List W → Sto → WK → Prop
def spOf (K : Fg) (F : DSpec) : Sp := fun vs H Q _ => ∃ (r : List Addr) (S : Sto) (ws : List W) (Q' : WK), RelS K r H S ∧ RepL K r H vs ws ∧ F ws S Q' ∧ ∀ r' H' S' v w, Ext K r H r' H' → RelS K r' H' S' → Rep K r' H' v w → Q' w S' → Q v H'
def dCall (F : DSpec) (da : DA) : DE := fun env S Q => da env S fun ws S1 => F ws S1 Q
theorem sim_call {K : Fg} {F : DSpec} {ta : TA} {da : DA} (sa : SimA K ta da) : Sim K (tCall (spOf K F) [] E0 ta) (dCall F da) := fun r H S s env Q Q0 R E d k =>
  sa r H S s env _ _ R E d fun r1 H1 S1 vs ws e1 R1 q1 d1 => ⟨r1, S1, ws, Q, R1, by rw [List.append_nil]; exact q1, d1, fun r2 H2 S2 v w e2 => k r2 H2 S2 v w (e1.trans e2)⟩
theorem xe_call {x : Str} {p : Pos} {e : Expr} {es : List Expr} {da : DA} {k : Nat} {f : Addr} {fd : FuncData} {ps : List Str} {F : DSpec} (G : FnOk X.prog X.w X.K X.mg X.base CX0 k f fd ps (spOf X.K F)) (hr : Room k X.A) (hg : Gl X x) (hm : X.mg x = some (.ref f)) (hk : PySem.W.keepIn X.K (.ref f) = true) (hb : Binds X.K fd ps [])
    (ha : XA X (e :: es) da) (hdb : (x == ("__debug__" : Str)) = false := by decide) (he : starEach (e :: es) X.env = (false, eval e X.env) :: starEach es X.env := by rfl) (hpl : (backTo pos (starEach es X.env)).any (·.1) = false := by rfl) :
    XE X (.Call (.Name x p) (e :: es) [] pos) (dCall F da) := by
  obtain ⟨t, pa, sa⟩ := ha.ex
  exact ⟨_, pe_call G hr hg hm hk hb .nil pass0 pa hdb he hpl, sim_call sa⟩
theorem xe_call0 {x : Str} {p : Pos} {k : Nat} {f : Addr} {fd : FuncData} {ps : List Str} {F : DSpec} (G : FnOk X.prog X.w X.K X.mg X.base CX0 k f fd ps (spOf X.K F)) (hr : Room k X.A) (hg : Gl X x) (hm : X.mg x = some (.ref f)) (hk : PySem.W.keepIn X.K (.ref f) = true) (hb : Binds X.K fd ps [])
    (hdb : (x == ("__debug__" : Str)) = false := by decide) : XE X (.Call (.Name x p) [] [] pos) (dCall F aNil) :=
  ⟨_, pe_call0 G hr hg hm hk hb .nil pass0 hdb, sim_call fun r H S s env Q Q0 R E d k => k r H S [] [] .refl R .nil d⟩
end
/-- the slots at the entry -/
def startW (n : Nat) (ws : List W) : Slots := ws.map some ++ List.replicate (n - ws.length) none
mutual
def W.bnd (n : Nat) : W → Bool
  | .tup ws => W.bndL n ws
  | .lit ws => W.bndL n ws
  | .ref i => decide (i < n)
  | _ => true
def W.bndL (n : Nat) : List W → Bool
  | [] => true
  | w :: ws => w.bnd n && W.bndL n ws
end
def O.bnd (n : Nat) : O → Bool
  | .lst ws => W.bndL n ws
  | .dk kvs => W.bndL n (kvs.map (·.2))
  | .tk ws => W.bndL n ws
  | .dt kvs => W.bndL n (kvs.map (·.2))
  | .ft ws => W.bndL n ws
/-- every reference leads into the store -/
def Closed (S : Sto) : Prop := ∀ (i : Nat) (o : O), S[i]? = some o → o.bnd S.length = true
section
variable {K : Fg} {r : List Addr} {H : Hp} {S : Sto}
mutual
theorem Rep.bnd (R : RelS K r H S) : ∀ {v : V} {w : W}, Rep K r H v w → w.bnd S.length = true
  | _, _, .non => rfl
  | _, _, .bl b => rfl
  | _, _, .int i => rfl
  | _, _, .str x => rfl
  | _, _, .tup h l => by
    show W.bndL _ _ = true
    exact RepL.bnd R l
  | _, _, .lit h l => by
    show W.bndL _ _ = true
    exact RepL.bnd R l
  | _, _, .ref h => by
    show decide _ = true
    exact decide_eq_true (R.lt h)
  | _, _, .raw v => rfl
theorem RepL.bnd (R : RelS K r H S) : ∀ {vs : List V} {ws : List W}, RepL K r H vs ws → W.bndL S.length ws = true
  | _, _, .nil => rfl
  | _, _, .cons h l => by
    show (W.bnd _ _ && W.bndL _ _) = true
    rw [Rep.bnd R h, RepL.bnd R l]
    rfl
end
theorem RelS.closed (R : RelS K r H S) : Closed S := fun i o h => by
  obtain ⟨a, _, x⟩ := R.at h
  cases o with
  | lst ws =>
    obtain ⟨xs, _, l⟩ := x
    exact l.bnd R
  | dk kvs =>
    obtain ⟨xs, _, _, l⟩ := x
    exact l.bnd R
  | tk ws =>
    obtain ⟨xs, _, l⟩ := x
    exact l.bnd R
  | dt kvs =>
    obtain ⟨xs, _, _, l⟩ := x
    exact l.bnd R
  | ft ws =>
    obtain ⟨ob, xs, _, _, l⟩ := x
    exact l.bnd R
end
mutual
def W.ren (f : List Nat) : W → W
  | .tup ws => .tup (W.renL f ws)
  | .lit ws => .lit (W.renL f ws)
  | .ref i => .ref (f.getD i 0)
  | w => w
def W.renL (f : List Nat) : List W → List W
  | [] => []
  | w :: ws => w.ren f :: W.renL f ws
end
def O.ren (f : List Nat) : O → O
  | .lst ws => .lst (W.renL f ws)
  | .dk kvs => .dk (kvs.map fun kv => (kv.1, kv.2.ren f))
  | .tk ws => .tk (W.renL f ws)
  | .dt kvs => .dt (kvs.map fun kv => (kv.1, kv.2.ren f))
  | .ft ws => .ft (W.renL f ws)
theorem renL_map (f : List Nat) : ∀ ws : List W, W.renL f ws = ws.map (W.ren f)
  | [] => rfl
  | w :: ws => congrArg _ (renL_map f ws)
section
variable {K : Fg} {r : List Addr} {H : Hp} {S : Sto} {f : List Nat}
def pickA (f : List Nat) (r : List Addr) : List Addr := f.map fun i => r.getD i 0
theorem pickA_get (hf : ∀ j ∈ f, j < r.length) {i j : Nat} (h : f[i]? = some j) : (pickA f r)[i]? = r[j]? := by
  have hj := hf j (List.mem_of_getElem? h)
  unfold pickA
  rw [List.getElem?_map, h]
  show some (r.getD j 0) = _
  rw [List.getD_eq_getElem?_getD, List.getElem?_eq_getElem hj]
  rfl
mutual
theorem Rep.unren (hf : ∀ j ∈ f, j < r.length) : ∀ (w : W) {v : V}, Rep K r H v (w.ren f) → w.bnd f.length = true → Rep K (pickA f r) H v w
  | .non, _, h, _ => by cases h; exact .non
  | .bl b, _, h, _ => by cases h; exact .bl b
  | .int i, _, h, _ => by cases h; exact .int i
  | .str x, _, h, _ => by cases h; exact .str x
  | .raw v, _, h, _ => by cases h; exact .raw v
  | .ref i, _, h, b => by
    have hi : i < f.length := of_decide_eq_true b
    have h' : Rep K r H _ (.ref (f.getD i 0)) := h
    rw [List.getD_eq_getElem?_getD, List.getElem?_eq_getElem hi] at h'
    cases h' with
    | ref q => exact .ref (by rw [pickA_get hf (List.getElem?_eq_getElem hi)]; exact q)
  | .tup ws, _, h, b => by
    cases h with
    | tup q l => exact .tup q (RepL.unren hf ws l b)
  | .lit ws, _, h, b => by
    cases h with
    | lit q l => exact .lit q (RepL.unren hf ws l b)
theorem RepL.unren (hf : ∀ j ∈ f, j < r.length) : ∀ (ws : List W) {vs : List V}, RepL K r H vs (W.renL f ws) → W.bndL f.length ws = true → RepL K (pickA f r) H vs ws
  | [], _, h, _ => by cases h; exact .nil
  | w :: ws, _, h, b => by
    have b' : (W.bnd f.length w && W.bndL f.length ws) = true := b
    rw [Bool.and_eq_true] at b'
    cases h with
    | cons q l => exact .cons (Rep.unren hf w q b'.1) (RepL.unren hf ws l b'.2)
end
mutual
theorem W.ren_id {n : Nat} : ∀ w : W, w.bnd n = true → w.ren (List.range n) = w
  | .non, _ => rfl
  | .bl b, _ => rfl
  | .int i, _ => rfl
  | .str x, _ => rfl
  | .raw v, _ => rfl
  | .ref i, b => by
    have hi : i < n := of_decide_eq_true b
    show W.ref ((List.range n).getD i 0) = _
    rw [List.getD_eq_getElem?_getD, List.getElem?_range hi]
    rfl
  | .tup ws, b => by
    show W.tup (W.renL _ ws) = _
    rw [W.renL_id ws b]
  | .lit ws, b => by
    show W.lit (W.renL _ ws) = _
    rw [W.renL_id ws b]
theorem W.renL_id {n : Nat} : ∀ ws : List W, W.bndL n ws = true → W.renL (List.range n) ws = ws
  | [], _ => rfl
  | w :: ws, b => by
    have b' : (W.bnd n w && W.bndL n ws) = true := b
    rw [Bool.and_eq_true] at b'
    show w.ren _ :: W.renL _ ws = _
    rw [W.ren_id w b'.1, W.renL_id ws b'.2]
end
theorem O.ren_id {n : Nat} : ∀ o : O, o.bnd n = true → o.ren (List.range n) = o
  | .lst ws, b => by
    show O.lst _ = _
    rw [W.renL_id ws b]
  | .dk kvs, b => by
    have go : ∀ kvs : List (Key × W), W.bndL n (kvs.map (·.2)) = true → (kvs.map fun kv => (kv.1, kv.2.ren (List.range n))) = kvs := by
      intro kvs
      induction kvs with
      | nil => intro _; rfl
      | cons kv r ih =>
        intro b
        have b' : (W.bnd n kv.2 && W.bndL n (r.map (·.2))) = true := b
        rw [Bool.and_eq_true] at b'
        rw [List.map_cons, ih b'.2, W.ren_id _ b'.1]
    show O.dk _ = _
    rw [go kvs b]
  | .tk ws, b => by
    show O.tk _ = _
    rw [W.renL_id ws b]
  | .ft ws, b => by
    show O.ft _ = _
    rw [W.renL_id ws b]
  | .dt kvs, b => by
    have go : ∀ kvs : List (List Key × W), W.bndL n (kvs.map (·.2)) = true → (kvs.map fun kv => (kv.1, kv.2.ren (List.range n))) = kvs := by
      intro kvs
      induction kvs with
      | nil => intro _; rfl
      | cons kv r ih =>
        intro b
        have b' : (W.bnd n kv.2 && W.bndL n (r.map (·.2))) = true := b
        rw [Bool.and_eq_true] at b'
        rw [List.map_cons, ih b'.2, W.ren_id _ b'.1]
    show O.dt _ = _
    rw [go kvs b]
end
/-- what a def hands back: the store laid anew by f (place i comes from f[i]); what is not named is forgotten -/
def Ends0 (n : Nat) (Q : WK) : WK := fun w S' => ∃ (f : List Nat) (S0 : Sto) (w0 : W), f.length = S0.length ∧ (∀ i, i < n → f[i]? = some i) ∧ f.Nodup ∧
  (∀ (i : Nat) (o : O), S0[i]? = some o → o.bnd f.length = true ∧ ∃ j, f[i]? = some j ∧ S'[j]? = some (o.ren f)) ∧ w = w0.ren f ∧ w0.bnd f.length = true ∧ Q w0 S0
theorem Ends0.drop {n : Nat} {Q : WK} {w : W} {S0 : Sto} (T : Sto) (hn : n ≤ S0.length) (c : Closed S0) (hb : w.bnd S0.length = true) (q : Q w S0) : Ends0 n Q w (S0 ++ T) := by
  refine ⟨List.range S0.length, S0, w, List.length_range, fun i hi => List.getElem?_range (by omega), List.nodup_range, fun i o h => ?_, (W.ren_id w hb).symm, by rw [List.length_range]; exact hb, q⟩
  have hi : i < S0.length := (List.getElem?_eq_some_iff.mp h).1
  have b := c i o h
  exact ⟨by rw [List.length_range]; exact b, i, List.getElem?_range hi, by rw [List.getElem?_append_left hi, h, O.ren_id o b]⟩
theorem Ends0.keep {n : Nat} {Q : WK} {w : W} {S0 : Sto} (hn : n ≤ S0.length) (c : Closed S0) (hb : w.bnd S0.length = true) (q : Q w S0) : Ends0 n Q w S0 := by
  have h := Ends0.drop (n := n) (Q := Q) (w := w) (S0 := S0) [] hn c hb q
  rw [List.append_nil] at h
  exact h
section
variable {P : Program} {w : World} {K : Fg} {mg : Str → Option Value} {base : Heap}
theorem ends_sim {r r' : List Addr} {H H' : Hp} {S S' : Sto} {Q : WK} {w : W} {v : V} (R : RelS K r H S) (e : Ext K r H r' H') (R' : RelS K r' H' S') (p : Rep K r' H' v w) (h : Ends0 S.length Q w S') :
    ∃ r0 S0 w0, Ext K r H r0 H' ∧ RelS K r0 H' S0 ∧ Rep K r0 H' v w0 ∧ Q w0 S0 := by
  obtain ⟨f, S0, w0, hl, hn, nd, ho, rfl, hb, q⟩ := h
  have hf : ∀ j ∈ f, j < r'.length := fun j hj => by
    obtain ⟨i, hi, e1⟩ := List.mem_iff_getElem.mp hj
    obtain ⟨_, j', h1, h2⟩ := ho i S0[i] (List.getElem?_eq_getElem (by rw [← hl]; exact hi))
    rw [List.getElem?_eq_getElem hi, e1] at h1
    cases h1
    rw [R'.len]
    exact (List.getElem?_eq_some_iff.mp h2).1
  refine ⟨pickA f r', S0, w0, ⟨⟨fun i a h => ?_, e.tup, e.frz⟩, e.oth, fun b hb' n' => ?_⟩, ⟨by rw [pickA, List.length_map]; exact hl, ?_, fun i a o ha hs => ?_⟩, Rep.unren hf w0 p hb, q⟩
  · rw [pickA_get hf (hn i (R.lt h))]
    exact e.pre i a h
  · obtain ⟨j, hj, e1⟩ := List.mem_map.mp hb'
    have lj := hf j hj
    rw [List.getD_eq_getElem?_getD, List.getElem?_eq_getElem lj] at e1
    have e2 : r'[j] = b := e1
    exact e.new b (by rw [← e2]; exact List.getElem_mem lj) n'
  · refine (List.pairwise_map).mpr ?_
    refine List.Pairwise.imp_of_mem (fun {a b} ha hb' hne he => ?_) nd
    have la := hf a ha
    have lb := hf b hb'
    rw [List.getD_eq_getElem?_getD, List.getD_eq_getElem?_getD, List.getElem?_eq_getElem la, List.getElem?_eq_getElem lb] at he
    exact hne ((List.getElem_inj R'.nd).mp (show r'[a] = r'[b] from he))
  · obtain ⟨b, j, h1, h2⟩ := ho i o hs
    rw [pickA_get hf h1] at ha
    have x := R'.obj j a _ ha h2
    cases o with
    | lst ws =>
      obtain ⟨xs, h3, l⟩ := x
      exact ⟨xs, h3, RepL.unren hf ws l b⟩
    | dk kvs =>
      obtain ⟨xs, h3, h4, l⟩ := x
      have b' : W.bndL f.length (kvs.map (·.2)) = true := b
      refine ⟨xs, h3, ?_, RepL.unren hf (kvs.map (·.2)) ?_ b'⟩
      · rw [h4, List.map_map]
        rfl
      · rw [renL_map, List.map_map]
        rw [List.map_map] at l
        exact l
    | tk ws =>
      obtain ⟨xs, h3, l⟩ := x
      exact ⟨xs, h3, RepL.unren hf ws l b⟩
    | ft ws =>
      obtain ⟨ob, xs, h3, h4, l⟩ := x
      exact ⟨ob, xs, h3, h4, RepL.unren hf ws l b⟩
    | dt kvs =>
      obtain ⟨xs, h3, h4, l⟩ := x
      have b' : W.bndL f.length (kvs.map (·.2)) = true := b
      refine ⟨xs, h3, ?_, RepL.unren hf (kvs.map (·.2)) ?_ b'⟩
      · rw [h4, List.map_map]
        rfl
      · rw [renL_map, List.map_map]
        rw [List.map_map] at l
        exact l
theorem fn_d {x qual : Str} {st : Stmt} {f : Addr} {fd : FuncData} {N ps : List Str} {k : Nat} {F : DSpec} (Fu : Fun K x qual st f fd) (Sc : FnScope N ps (defScope st)) (len : ∀ ws S Q, F ws S Q → ws.length = ps.length)
    (hb : ∀ (cdv : Value) (A : Around) (outer : List PySem.Env) (s : Shared) (H : Hp) (E : XK), Room k (A.deeper (envOfC qual (defScope st) s.heap.objs.size f cdv)) →
      ∃ d, XSs (cxOf CX0 P w K mg base N qual (defScope st) f cdv A outer s H E).nox (defBody st) d ∧
        ∀ ws S Q, Closed S → F ws S Q → d { nx := fun _ S' => Ends0 S.length Q .non S', rt := Ends0 S.length Q, bk := fun _ _ => False, ct := fun _ _ => False } (startW N.length ws) S) :
    FnOk P w K mg base CX0 (k + 1) f fd ps (spOf K F) := by
  refine Fu.ok Sc (fun vs H Q E h => ?_) (fun cdv A outer s H vs Q E hr h => ?_)
  · obtain ⟨r, S, ws, Q', R, l, hF, _⟩ := h
    rw [l.length]
    exact len ws S Q' hF
  · obtain ⟨d, hx, hd⟩ := hb cdv A outer s H E hr
    obtain ⟨t, pt, st⟩ := hx.ex
    obtain ⟨r, S, ws, Q', R, l, hF, k⟩ := h
    refine ⟨t, pt, ?_⟩
    refine st r H S _ _ _ _ R (RepE.start l) (hd ws S Q' R.closed hF) ⟨?_, ?_, fun _ _ _ _ _ _ _ _ h => h, fun _ _ _ _ _ _ _ _ h => h⟩
    · intro r' H' S' s' env' e' R' E' h
      obtain ⟨r0, S0, w0, e0, R0, p0, q⟩ := ends_sim R e' R' .non h
      exact k r0 H' S0 _ w0 e0 R0 p0 q
    · intro r' H' S' v w e' R' p' h
      obtain ⟨r0, S0, w0, e0, R0, p0, q⟩ := ends_sim R e' R' p' h
      exact k r0 H' S0 _ w0 e0 R0 p0 q
end
end DL

/-! DLd: operators, built-ins, methods by values. -/
namespace DL
open PySem PySem.Spec PyProof.Rows L2

/-! ### sequences, data -/
def seqOf (S : Sto) : W → Option (List W)
  | .tup ws => some ws
  | .lit ws => some ws
  | .ref i => match S[i]? with
    | some (.lst ws) => some ws
    | _ => none
  | _ => none
mutual
def W.pure : W → Bool
  | .tup ws => W.pureL ws
  | .lit ws => W.pureL ws
  | .ref _ => false
  | .raw _ => false
  | _ => true
def W.pureL : List W → Bool
  | [] => true
  | w :: ws => w.pure && W.pureL ws
end
mutual
def datW : W → PyData
  | .non => .none
  | .bl b => .bool b
  | .int i => .int i
  | .str x => .str x
  | .tup ws => .tuple (datWs ws)
  | .lit ws => .list (datWs ws)
  | .ref _ => .none
  | .raw _ => .none
def datWs : List W → List PyData
  | [] => []
  | w :: ws => datW w :: datWs ws
end
def dataS (S : Sto) (w : W) : Option PyData := match w with
  | .ref i => match S[i]? with
    | some (.lst ws) => if W.pureL ws then some (.list (datWs ws)) else none
    | _ => none
  | w => if w.pure then some (datW w) else none
/-- == of scalars -/
def scW : W → W → Option Bool
  | .int i, .int j => some (decide (i = j))
  | .str a, .str b => some (decide (a = b))
  | .bl a, .bl b => some (decide (a = b))
  | .non, .non => some true
  | .non, .int _ => some false | .int _, .non => some false | .non, .bl _ => some false | .bl _, .non => some false
  | .non, .str _ => some false | .str _, .non => some false | .int _, .str _ => some false | .str _, .int _ => some false
  | .bl _, .str _ => some false | .str _, .bl _ => some false
  | _, _ => none
def flW : W → Bool
  | .non => true | .bl _ => true | .int _ => true | .str _ => true | _ => false
def eqW : W → W → Bool
  | .non, .non => true
  | .bl a, .bl b => a == b
  | .bl a, .int b => (if a then 1 else 0) == b
  | .int a, .bl b => a == (if b then 1 else 0)
  | .int a, .int b => a == b
  | .str a, .str b => a == b
  | _, _ => false
def inW (x : W) (ws : List W) : Bool := ws.any fun y => eqW y x
section
variable {K : Fg} {r : List Addr} {H : Hp} {S : Sto}
theorem relO_there {i : Nat} {a : Addr} (R : RelS K r H S) (ha : r[i]? = some a) : ∃ ob, S[i]? = some ob ∧ RelO K r H a ob := by
  have l := R.lt ha
  exact ⟨S[i], List.getElem?_eq_getElem l, R.obj i a _ ha (List.getElem?_eq_getElem l)⟩
theorem seqOf_sim {v : V} {w : W} {ws : List W} (R : RelS K r H S) (p : Rep K r H v w) (h : seqOf S w = some ws) : ∃ a xs, v = .ref a ∧ (SqL K H a xs ∨ SqT K H a xs) ∧ RepL K r H xs ws := by
  cases p with
  | tup q l =>
    cases Option.some.inj h
    exact ⟨_, _, rfl, .inr q, l⟩
  | lit q l =>
    cases Option.some.inj h
    exact ⟨_, _, rfl, .inl q.1, l⟩
  | @ref a i q =>
    obtain ⟨o, ho, x⟩ := relO_there R q
    have e : seqOf S (.ref i) = some ws := h
    simp only [seqOf, ho] at e
    cases o with
    | lst us =>
      cases Option.some.inj e
      obtain ⟨xs, h1, l⟩ := x
      exact ⟨_, _, rfl, .inl (.of h1), l⟩
    | dk us => cases e
    | tk us => cases e
    | dt us => cases e
    | ft us => cases e
  | _ => cases h
theorem seqOf_ref {i : Nat} {ws : List W} (h : S[i]? = some (.lst ws)) : seqOf S (.ref i) = some ws := by simp only [seqOf, h]
theorem repL_strs : ∀ {vs : List V} {ys : List Str}, RepL K r H vs (ys.map W.str) → vs = ys.map V.str
  | _, [], .nil => rfl
  | _, y :: ys, .cons h l => by
    cases h
    rw [repL_strs l]
    rfl
theorem repL_ints : ∀ {vs : List V} {ys : List Int}, RepL K r H vs (ys.map W.int) → vs = ys.map V.int
  | _, [], .nil => rfl
  | _, y :: ys, .cons h l => by
    cases h
    rw [repL_ints l]
    rfl
theorem repL_bls : ∀ {vs : List V} {ys : List Bool}, RepL K r H vs (ys.map W.bl) → vs = ys.map V.bl
  | _, [], .nil => rfl
  | _, y :: ys, .cons h l => by
    cases h
    rw [repL_bls l]
    rfl
theorem repL_of_ints : ∀ (ys : List Int), RepL K r H (ys.map V.int) (ys.map W.int)
  | [] => .nil
  | y :: ys => .cons (.int y) (repL_of_ints ys)
theorem repL_of_strs : ∀ (ys : List Str), RepL K r H (ys.map V.str) (ys.map W.str)
  | [] => .nil
  | y :: ys => .cons (.str y) (repL_of_strs ys)
mutual
theorem dp_of : ∀ {v : V} {w : W}, Rep K r H v w → w.pure = true → Dp K H v (datW w)
  | _, _, .non, _ => .non
  | _, _, .bl b, _ => .bl b
  | _, _, .int i, _ => .int i
  | _, _, .str x, _ => .str x
  | _, _, .tup h l, b => .tup h (dpL_of l b)
  | _, _, .lit h l, b => .lst h.1 (dpL_of l b)
  | _, _, .ref h, b => Bool.noConfusion (show false = true from b)
  | _, _, .raw v, b => Bool.noConfusion (show false = true from b)
theorem dpL_of : ∀ {vs : List V} {ws : List W}, RepL K r H vs ws → W.pureL ws = true → DpAll K H vs (datWs ws)
  | _, _, .nil, _ => .nil
  | _, _, .cons h l, b => by
    have b' : (W.pure _ && W.pureL _) = true := b
    rw [Bool.and_eq_true] at b'
    exact .cons (dp_of h b'.1) (dpL_of l b'.2)
end
theorem dataS_sim {v : V} {w : W} {d : PyData} (R : RelS K r H S) (p : Rep K r H v w) (h : dataS S w = some d) : Dp K H v d := by
  cases p with
  | @ref a i q =>
    obtain ⟨o, ho, x⟩ := relO_there R q
    have e : dataS S (.ref i) = some d := h
    simp only [dataS, ho] at e
    cases o with
    | lst us =>
      simp only at e
      split at e
      · rename_i hp
        cases Option.some.inj e
        obtain ⟨xs, h1, l⟩ := x
        exact .lst (.of h1) (dpL_of l hp)
      · cases e
    | dk us => cases e
    | tk us => cases e
    | dt us => cases e
    | ft us => cases e
  | non => cases Option.some.inj h; exact .non
  | bl b => cases Option.some.inj h; exact .bl b
  | int b => cases Option.some.inj h; exact .int b
  | str b => cases Option.some.inj h; exact .str b
  | @tup a xs ws q l =>
    have e : (if (W.tup ws).pure = true then some (datW (.tup ws)) else none) = some d := h
    split at e
    · rename_i hp
      cases Option.some.inj e
      exact dp_of (.tup q l) hp
    · cases e
  | @lit a xs ws q l =>
    have e : (if (W.lit ws).pure = true then some (datW (.lit ws)) else none) = some d := h
    split at e
    · rename_i hp
      cases Option.some.inj e
      exact dp_of (.lit q l) hp
    · cases e
  | raw v => cases h
theorem flat_sim {v : V} {w : W} (p : Rep K r H v w) (h : flW w = true) : flatV v = true := by
  cases p <;> first | rfl | exact Bool.noConfusion (show false = true from h)
theorem eqW_sim {v u : V} {w z : W} (p : Rep K r H v w) (q : Rep K r H u z) (h : flW w = true) (h' : flW z = true) : eqV v u = eqW w z := by
  cases p <;> first
    | (cases q <;> first | rfl | exact Bool.noConfusion (show false = true from h'))
    | exact Bool.noConfusion (show false = true from h)
theorem flat_all {vs : List V} {ws : List W} (l : RepL K r H vs ws) (h : ws.all flW = true) : vs.all flatV = true := by
  induction vs generalizing ws with
  | nil => rfl
  | cons v vs ih =>
    cases l with
    | cons p l =>
      rw [List.all_cons, Bool.and_eq_true] at h ⊢
      exact ⟨flat_sim p h.1, ih l h.2⟩
theorem inW_sim {v : V} {w : W} {vs : List V} {ws : List W} (p : Rep K r H v w) (l : RepL K r H vs ws) (h : flW w = true) (hs : ws.all flW = true) : inV v vs = inW w ws := by
  induction vs generalizing ws with
  | nil => cases l; rfl
  | cons u vs ih =>
    cases l with
    | cons q l =>
      rw [List.all_cons, Bool.and_eq_true] at hs
      show (eqV u v || inV v vs) = (eqW _ w || inW w _)
      rw [eqW_sim q p hs.1 h, ih l hs.2]
theorem atI_sim {vs : List V} {ws : List W} {i : Int} {w : W} (l : RepL K r H vs ws) (h : atI ws i = some w) : ∃ v, atI vs i = some v ∧ Rep K r H v w := by
  have hl := l.length
  unfold atI at h ⊢
  rw [hl]
  cases hj : ixN ws.length i with
  | none =>
    rw [hj] at h
    cases h
  | some j =>
    rw [hj] at h
    exact l.get h
def cutW (ws : List W) (lo hi : Option Int) : List W := (ws.drop (HT.sIx ws.length 0 lo)).take (HT.sIx ws.length ws.length hi - HT.sIx ws.length 0 lo)
theorem cut_sim {vs : List V} {ws : List W} (l : RepL K r H vs ws) (lo hi : Option Int) : RepL K r H (cutV vs lo hi) (cutW ws lo hi) := by
  unfold cutV cutW
  rw [l.length]
  exact (l.drop _).take _
end
theorem cutW_whole {ws : List W} {lo hi : Option Int} (h : HT.sIx ws.length 0 lo = 0 ∧ HT.sIx ws.length ws.length hi = ws.length) : cutW ws lo hi = ws := by
  unfold cutW
  rw [h.1, h.2]
  simp

/-! ### operators -/
section
variable {X : Cx}
def vAdd (x y : W) (S : Sto) (Q : WK) : Prop := match x, y with
  | .int i, .int j => Q (.int (i + j)) S
  | .str a, .str b => a.length + b.length ≤ sizeLine ∧ Q (.str (a ++ b)) S
  | .tup a, .tup b => a.length + b.length ≤ sizeLine ∧ Q (.tup (a ++ b)) S
  | .ref i, .ref j => ∃ a b, S[i]? = some (.lst a) ∧ S[j]? = some (.lst b) ∧ a.length + b.length ≤ sizeLine ∧ Q (.ref S.length) (S ++ [.lst (a ++ b)])
  | _, _ => False
def rAddAll (K : Fg) : R2 := fun x y H Q => (∃ i j, x = .int i ∧ y = .int j ∧ Q (.int (i + j)) H) ∨ ((∃ i j, x = .str i ∧ y = .str j ∧ i.length + j.length ≤ sizeLine ∧ Q (.str (i ++ j)) H) ∨ (rCatA K x y H Q ∨ rCat x y H Q))
theorem op_addAll : OpR X (binaryOp .Add) (rAddAll X.K) := OpR.or op_add (OpR.or op_add_str (OpR.or op_catA op_cat))
theorem add_sim {K : Fg} : SimR K (rAddAll K) vAdd := by
  intro r H S x y wx wy Q Q0 R px py d k
  cases px <;> cases py <;> try exact d.elim
  · exact .inl ⟨_, _, rfl, rfl, k r H S _ _ .refl R (.int _) d⟩
  · exact .inr (.inl ⟨_, _, rfl, rfl, d.1, k r H S _ _ .refl R (.str _) d.2⟩)
  · rename_i a xs ws h l b ys zs h2 l2
    have e1 := l.length
    have e2 := l2.length
    refine .inr (.inr (.inl ⟨_, _, xs, ys, rfl, rfl, h, h2, by rw [e1, e2]; exact d.1, fun e => ?_, fun e e' => ?_, fun e e' p hp => ?_⟩))
    · subst e
      cases l
      exact k r H S _ _ .refl R (.tup h2 l2) d.2
    · subst e'
      cases l2
      have d2 := d.2
      rw [List.append_nil] at d2
      exact k r H S _ _ .refl R (.tup h l) d2
    · exact k r _ S _ _ (ext_new hp) (rel_new R hp) (rep_tup hp (l.app l2)) d.2
  · rename_i a i h b j h2
    obtain ⟨as, bs, ha, hb, hz, q⟩ := d
    obtain ⟨xs, h1, l1⟩ := R.obj i _ _ h ha
    obtain ⟨ys, h3, l3⟩ := R.obj j _ _ h2 hb
    refine .inr (.inr (.inr ⟨_, _, xs, ys, rfl, rfl, h1, h3, by rw [l1.length, l3.length]; exact hz, fun p hp => ?_⟩))
    exact k _ _ _ _ _ (ext_mem hp) (new_lst R hp (l1.app l3)) (rep_mem R) q
/-- ints in, an int out -/
def vI2 (C : Int → Int → Prop) (g : Int → Int → W) (x y : W) (S : Sto) (Q : WK) : Prop := match x, y with
  | .int i, .int j => C i j ∧ Q (g i j) S
  | _, _ => False
theorem i2_sim {K : Fg} {C : Int → Int → Prop} {g : Int → Int → V} {g' : Int → Int → W} (h : ∀ r H i j, Rep K r H (g i j) (g' i j)) : SimR K (rI C g) (vI2 C g') := by
  intro r H S x y wx wy Q Q0 R px py d k
  cases px <;> cases py <;> try exact d.elim
  exact ⟨_, _, rfl, rfl, d.1, k r H S _ _ .refl R (h _ _ _ _) d.2⟩
def vI20 (g : Int → Int → W) (x y : W) (S : Sto) (Q : WK) : Prop := match x, y with
  | .int i, .int j => Q (g i j) S
  | _, _ => False
theorem i20_sim {K : Fg} {g : Int → Int → V} {g' : Int → Int → W} (h : ∀ r H i j, Rep K r H (g i j) (g' i j)) : SimR K (rI0 g) (vI20 g') := by
  intro r H S x y wx wy Q Q0 R px py d k
  cases px <;> cases py <;> try exact d.elim
  exact ⟨_, _, rfl, rfl, k r H S _ _ .refl R (h _ _ _ _) d⟩
abbrev vSub := vI20 fun i j => .int (i - j)
abbrev vMul := vI2 (fun i j => CMul i j ∨ CMulW i j) fun i j => .int (i * j)
abbrev vDiv := vI2 CDivW fun i j => .int (i / j)
abbrev vMod := vI2 (fun _ j => 0 < j) fun i j => .int (i % j)
abbrev vPow := vI2 CPow fun i j => .int (i ^ j.toNat)
theorem op_mulA : OpR X (binaryOp .Mult) (rI (fun i j => CMul i j ∨ CMulW i j) fun i j => .int (i * j)) := by
  intro pins s σ H x y v u Q I rx ry h
  obtain ⟨i, j, rfl, rfl, hc, q⟩ := h
  rcases hc with hc | hc
  · exact op_mul pins s σ H _ _ v u Q I rx ry ⟨i, j, rfl, rfl, hc, q⟩
  · exact op_mulW pins s σ H _ _ v u Q I rx ry ⟨i, j, rfl, rfl, hc, q⟩
variable {a b e o : Expr} {es : List Expr} {da db de d0 : DE} {dA : DA} {pos : Pos}
theorem x_add (ha : XE X a da) (hb : XE X b db) : XE X (.BinOp a .Add b pos) (dOp vAdd da db) := xe_op op_addAll add_sim ha hb
theorem x_sub (ha : XE X a da) (hb : XE X b db) : XE X (.BinOp a .Sub b pos) (dOp vSub da db) := xe_op op_sub (i20_sim fun _ _ _ _ => .int _) ha hb
theorem x_mul (ha : XE X a da) (hb : XE X b db) : XE X (.BinOp a .Mult b pos) (dOp vMul da db) := xe_op op_mulA (i2_sim fun _ _ _ _ => .int _) ha hb
theorem x_div (ha : XE X a da) (hb : XE X b db) : XE X (.BinOp a .FloorDiv b pos) (dOp vDiv da db) := xe_op op_fdivW (i2_sim fun _ _ _ _ => .int _) ha hb
theorem x_mod (ha : XE X a da) (hb : XE X b db) : XE X (.BinOp a .Mod b pos) (dOp vMod da db) := xe_op op_mod (i2_sim fun _ _ _ _ => .int _) ha hb
theorem x_pow (ha : XE X a da) (hb : XE X b db) : XE X (.BinOp a .Pow b pos) (dOp vPow da db) := xe_op op_pow (i2_sim fun _ _ _ _ => .int _) ha hb
def vNeg (x : W) (S : Sto) (Q : WK) : Prop := match x with
  | .int i => Q (.int (-i)) S
  | _ => False
theorem neg_sim {K : Fg} : SimU K (rU fun i => .int (-i)) vNeg := by
  intro r H S x wx Q Q0 R px d k
  cases px <;> try exact d.elim
  exact ⟨_, rfl, k r H S _ _ .refl R (.int _) d⟩
theorem x_neg (ha : XE X a da) : XE X (.UnaryOp .USub a pos) (dUn vNeg da) := xe_un un_neg neg_sim ha
/-! ### == and its kin -/
def vEqG (neg : Bool) (x y : W) (S : Sto) (Q : WK) : Prop := match scW x y with
  | some b => Q (.bl (neg ^^ b)) S
  | none => ∃ d e, dataS S x = some d ∧ dataS S y = some e ∧ SeqAt.shaped d = true ∧ SeqAt.shaped e = true ∧ Q (.bl (neg ^^ PyData.eqv d e)) S
abbrev vEq := vEqG false
abbrev vNe := vEqG true
def rEqG (K : Fg) (neg : Bool) : R2 := fun x y H Q => (scal x y = true ∧ Q (.bl (neg ^^ decide (x = y))) H) ∨ ∃ d e, Dp K H x d ∧ Dp K H y e ∧ SeqAt.shaped d = true ∧ SeqAt.shaped e = true ∧ Q (.bl (neg ^^ PyData.eqv d e)) H
theorem op_eqG (hu : X.A.units + 64 < cLine) : OpR X (compareOp .Eq) (rEqG X.K false) := by
  have h := OpR.or (X := X) op_eq (op_eqD hu)
  intro pins s σ H x y v u Q I rx ry q
  refine h pins s σ H x y v u Q I rx ry ?_
  rcases q with q | ⟨d, e, q⟩
  · exact .inl ⟨q.1, by have z := q.2; rw [Bool.false_xor] at z; exact z⟩
  · exact .inr ⟨d, e, q.1, q.2.1, q.2.2.1, q.2.2.2.1, by have z := q.2.2.2.2; rw [Bool.false_xor] at z; exact z⟩
theorem op_neG (hu : X.A.units + 64 < cLine) : OpR X (compareOp .NotEq) (rEqG X.K true) := by
  have h := OpR.or (X := X) op_ne (op_neD hu)
  intro pins s σ H x y v u Q I rx ry q
  refine h pins s σ H x y v u Q I rx ry ?_
  rcases q with q | ⟨d, e, q⟩
  · exact .inl ⟨q.1, by have z := q.2; rw [Bool.true_xor] at z; exact z⟩
  · exact .inr ⟨d, e, q.1, q.2.1, q.2.2.1, q.2.2.2.1, by have z := q.2.2.2.2; rw [Bool.true_xor] at z; exact z⟩
theorem sc_sim {K : Fg} {r : List Addr} {H : Hp} {x y : V} {wx wy : W} {b : Bool} (px : Rep K r H x wx) (py : Rep K r H y wy) (h : scW wx wy = some b) : scal x y = true ∧ decide (x = y) = b := by
  cases px <;> cases py <;> first
    | (cases Option.some.inj h; exact ⟨rfl, rfl⟩)
    | (cases Option.some.inj h; exact ⟨rfl, by simp⟩)
    | cases h
theorem eqG_sim {K : Fg} {neg : Bool} : SimR K (rEqG K neg) (vEqG neg) := by
  intro r H S x y wx wy Q Q0 R px py d k
  unfold vEqG at d
  split at d
  · rename_i b hb
    obtain ⟨h1, h2⟩ := sc_sim px py hb
    exact .inl ⟨h1, by rw [h2]; exact k r H S _ _ .refl R (.bl _) d⟩
  · obtain ⟨d1, d2, h1, h2, s1, s2, q⟩ := d
    exact .inr ⟨d1, d2, dataS_sim R px h1, dataS_sim R py h2, s1, s2, k r H S _ _ .refl R (.bl _) q⟩
theorem x_eq (hu : X.A.units + 64 < cLine) (ha : XE X a da) (hb : XE X b db) : XE X (.Compare a [.Eq] [b] pos) (dOp vEq da db) := xe_cmp (op_eqG hu) eqG_sim ha hb
theorem x_ne (hu : X.A.units + 64 < cLine) (ha : XE X a da) (hb : XE X b db) : XE X (.Compare a [.NotEq] [b] pos) (dOp vNe da db) := xe_cmp (op_neG hu) eqG_sim ha hb
theorem t_eq (hu : X.A.units + 64 < cLine) (ha : XE X a da) (hb : XE X b db) : XT X (.Compare a [.Eq] [b] pos) (dB (dOp vEq da db)) := xt_cmp (op_eqG hu) eqG_sim ha hb
theorem t_ne (hu : X.A.units + 64 < cLine) (ha : XE X a da) (hb : XE X b db) : XT X (.Compare a [.NotEq] [b] pos) (dB (dOp vNe da db)) := xt_cmp (op_neG hu) eqG_sim ha hb
/-! ### order: ints, texts -/
def vCmp (g : Int → Int → Bool) (g' : Str → Str → Bool) (x y : W) (S : Sto) (Q : WK) : Prop := match x, y with
  | .int i, .int j => Q (.bl (g i j)) S
  | .str i, .str j => Q (.bl (g' i j)) S
  | _, _ => False
theorem cmp_sim {K : Fg} {g : Int → Int → Bool} {g' : Str → Str → Bool} : SimR K (fun x y H Q => rI0 (fun i j => .bl (g i j)) x y H Q ∨ ∃ i j, x = .str i ∧ y = .str j ∧ Q (.bl (g' i j)) H) (vCmp g g') := by
  intro r H S x y wx wy Q Q0 R px py d k
  cases px <;> cases py <;> try exact d.elim
  · exact .inl ⟨_, _, rfl, rfl, k r H S _ _ .refl R (.bl _) d⟩
  · exact .inr ⟨_, _, rfl, rfl, k r H S _ _ .refl R (.bl _) d⟩
abbrev vLt := vCmp (fun i j => decide (i < j)) fun i j => decide (i.cps.toList < j.cps.toList)
abbrev vLe := vCmp (fun i j => decide (i ≤ j)) fun i j => !decide (j.cps.toList < i.cps.toList)
abbrev vGt := vCmp (fun i j => decide (j < i)) fun i j => decide (j.cps.toList < i.cps.toList)
abbrev vGe := vCmp (fun i j => decide (j ≤ i)) fun i j => !decide (i.cps.toList < j.cps.toList)
theorem x_lt (ha : XE X a da) (hb : XE X b db) : XE X (.Compare a [.Lt] [b] pos) (dOp vLt da db) := xe_cmp (OpR.or op_lt op_lt_str) cmp_sim ha hb
theorem x_le (ha : XE X a da) (hb : XE X b db) : XE X (.Compare a [.LtE] [b] pos) (dOp vLe da db) := xe_cmp (OpR.or op_le op_le_str) cmp_sim ha hb
theorem x_gt (ha : XE X a da) (hb : XE X b db) : XE X (.Compare a [.Gt] [b] pos) (dOp vGt da db) := xe_cmp (OpR.or op_gt op_gt_str) cmp_sim ha hb
theorem x_ge (ha : XE X a da) (hb : XE X b db) : XE X (.Compare a [.GtE] [b] pos) (dOp vGe da db) := xe_cmp (OpR.or op_ge op_ge_str) cmp_sim ha hb
theorem t_lt (ha : XE X a da) (hb : XE X b db) : XT X (.Compare a [.Lt] [b] pos) (dB (dOp vLt da db)) := xt_cmp (OpR.or op_lt op_lt_str) cmp_sim ha hb
theorem t_le (ha : XE X a da) (hb : XE X b db) : XT X (.Compare a [.LtE] [b] pos) (dB (dOp vLe da db)) := xt_cmp (OpR.or op_le op_le_str) cmp_sim ha hb
theorem t_gt (ha : XE X a da) (hb : XE X b db) : XT X (.Compare a [.Gt] [b] pos) (dB (dOp vGt da db)) := xt_cmp (OpR.or op_gt op_gt_str) cmp_sim ha hb
theorem t_ge (ha : XE X a da) (hb : XE X b db) : XT X (.Compare a [.GtE] [b] pos) (dB (dOp vGe da db)) := xt_cmp (OpR.or op_ge op_ge_str) cmp_sim ha hb
/-! ### is None, in -/
def vIs (neg : Bool) (x y : W) (S : Sto) (Q : WK) : Prop := match x, y with
  | .raw _, _ => False
  | .non, .non => Q (.bl (!neg)) S
  | _, .non => Q (.bl neg) S
  | _, _ => False
theorem is_sim {K : Fg} : SimR K (fun x y H Q => y = .non ∧ Q (.bl (decide (x = .non))) H) (vIs false) := by
  intro r H S x y wx wy Q Q0 R px py d k
  cases py <;> cases px <;> first
    | exact d.elim
    | exact ⟨rfl, k r H S _ _ .refl R (.bl _) d⟩
theorem isnot_sim {K : Fg} : SimR K (fun x y H Q => y = .non ∧ Q (.bl (!decide (x = .non))) H) (vIs true) := by
  intro r H S x y wx wy Q Q0 R px py d k
  cases py <;> cases px <;> first
    | exact d.elim
    | exact ⟨rfl, k r H S _ _ .refl R (.bl _) d⟩
theorem x_is (ha : XE X a da) (hb : XE X b db) : XE X (.Compare a [.Is] [b] pos) (dOp (vIs false) da db) := xe_cmp op_isN is_sim ha hb
theorem x_isnot (ha : XE X a da) (hb : XE X b db) : XE X (.Compare a [.IsNot] [b] pos) (dOp (vIs true) da db) := xe_cmp op_notN isnot_sim ha hb
theorem t_is (ha : XE X a da) (hb : XE X b db) : XT X (.Compare a [.Is] [b] pos) (dB (dOp (vIs false) da db)) := xt_cmp op_isN is_sim ha hb
theorem t_isnot (ha : XE X a da) (hb : XE X b db) : XT X (.Compare a [.IsNot] [b] pos) (dB (dOp (vIs true) da db)) := xt_cmp op_notN isnot_sim ha hb
def vIn (neg : Bool) (x y : W) (S : Sto) (Q : WK) : Prop := ∃ ws, seqOf S y = some ws ∧ flW x = true ∧ ws.all flW = true ∧ Q (.bl (neg ^^ inW x ws)) S
theorem in_sim {K : Fg} : SimR K (rIn K false) (vIn false) := by
  intro r H S x y wx wy Q Q0 R px py d k
  obtain ⟨ws, hs, f1, f2, q⟩ := d
  obtain ⟨p, xs, rfl, hq, l⟩ := seqOf_sim R py hs
  refine ⟨p, xs, rfl, hq, flat_sim px f1, flat_all l f2, ?_⟩
  rw [if_neg Bool.false_ne_true, inW_sim px l f1 f2]
  rw [Bool.false_xor] at q
  exact k r H S _ _ .refl R (.bl _) q
theorem notin_sim {K : Fg} : SimR K (rIn K true) (vIn true) := by
  intro r H S x y wx wy Q Q0 R px py d k
  obtain ⟨ws, hs, f1, f2, q⟩ := d
  obtain ⟨p, xs, rfl, hq, l⟩ := seqOf_sim R py hs
  refine ⟨p, xs, rfl, hq, flat_sim px f1, flat_all l f2, ?_⟩
  rw [if_pos rfl, inW_sim px l f1 f2]
  rw [Bool.true_xor] at q
  exact k r H S _ _ .refl R (.bl _) q
theorem x_in (ha : XE X a da) (hb : XE X b db) (hm : behindInMarks .In b = false := by rfl) : XE X (.Compare a [.In] [b] pos) (dOp (vIn false) da db) := xe_cmp op_in_seq in_sim ha hb hm
theorem x_notin (ha : XE X a da) (hb : XE X b db) (hm : behindInMarks .NotIn b = false := by rfl) : XE X (.Compare a [.NotIn] [b] pos) (dOp (vIn true) da db) := xe_cmp op_notIn_seq notin_sim ha hb hm
theorem t_in (ha : XE X a da) (hb : XE X b db) (hm : behindInMarks .In b = false := by rfl) : XT X (.Compare a [.In] [b] pos) (dB (dOp (vIn false) da db)) := xt_cmp op_in_seq in_sim ha hb hm
theorem t_notin (ha : XE X a da) (hb : XE X b db) (hm : behindInMarks .NotIn b = false := by rfl) : XT X (.Compare a [.NotIn] [b] pos) (dB (dOp (vIn true) da db)) := xt_cmp op_notIn_seq notin_sim ha hb hm
/-! ### subscripts -/
def vIx (x y : W) (S : Sto) (Q : WK) : Prop := match x, y with
  | .ref p, .int i => ∃ ws w, S[p]? = some (.lst ws) ∧ atI ws i = some w ∧ Q w S
  | .tup ws, .int i => ∃ w, atI ws i = some w ∧ Q w S
  | .lit ws, .int i => ∃ w, atI ws i = some w ∧ Q w S
  | .str z, .int i => ∃ c, z.length ≤ sizeLine ∧ atI z.cps.toList i = some c ∧ Q (.str ⟨#[c]⟩) S
  | _, _ => False
theorem ix_sim {K : Fg} : SimR K (rIx K) vIx := by
  intro r H S x y wx wy Q Q0 R px py d k
  cases px <;> cases py <;> try exact d.elim
  · obtain ⟨c, h1, h2, q⟩ := d
    exact .inr (.inr ⟨_, _, c, rfl, rfl, h1, h2, k r H S _ _ .refl R (.str _) q⟩)
  · rename_i a xs ws h l i
    obtain ⟨w, h1, q⟩ := d
    obtain ⟨v, hv, pv⟩ := atI_sim l h1
    exact .inr (.inl ⟨_, xs, i, v, rfl, rfl, h, hv, k r H S _ _ .refl R pv q⟩)
  · rename_i a xs ws h l i
    obtain ⟨w, h1, q⟩ := d
    obtain ⟨v, hv, pv⟩ := atI_sim l h1
    exact .inl ⟨_, xs, i, v, rfl, rfl, h.1, hv, k r H S _ _ .refl R pv q⟩
  · rename_i a j h i
    obtain ⟨ws, w, h0, h1, q⟩ := d
    obtain ⟨xs, h3, l⟩ := R.obj j _ _ h h0
    obtain ⟨v, hv, pv⟩ := atI_sim l h1
    exact .inl ⟨_, xs, i, v, rfl, rfl, .of h3, hv, k r H S _ _ .refl R pv q⟩
theorem x_ix (ha : XE X a da) (hb : XE X b db) (hs : PlainIx b := by exact fun _ _ => rfl) : XE X (.Subscript a b pos) (dOp vIx da db) := xe_ix ix_seq ix_sim ha hb hs
def vSl (x : W) (lo hi : Option Int) (S : Sto) (Q : WK) : Prop := match x with
  | .ref p => ∃ ws, S[p]? = some (.lst ws) ∧ Q (.ref S.length) (S ++ [.lst (cutW ws lo hi)])
  | .lit ws => Q (.ref S.length) (S ++ [.lst (cutW ws lo hi)])
  | .tup ws => Q (.tup (cutW ws lo hi)) S
  | .str z => z.length ≤ sizeLine ∧ Q (.str (cutS z lo hi)) S
  | _ => False
def rSlAll (K : Fg) : V → Option Int → Option Int → Hp → VK → Prop := fun x lo hi H Q => rSlL K x lo hi H Q ∨ (rSlA K x lo hi H Q ∨ rSlS x lo hi H Q)
theorem sl_all : SlR X (rSlAll X.K) := SlR.or sl_list (SlR.or sl_tupA sl_str)
theorem sl_sim {K : Fg} : SimSl K (rSlAll K) vSl := by
  intro r H S x wx lo hi Q Q0 R px d k
  cases px <;> try exact d.elim
  · exact .inr (.inr ⟨_, rfl, d.1, k r H S _ _ .refl R (.str _) d.2⟩)
  · rename_i a xs ws h l
    have e := l.length
    refine .inr (.inl ⟨a, xs, rfl, h, fun hw => ?_, fun hw p hp => ?_⟩)
    · rw [e] at hw
      have d' : Q (.tup (cutW ws lo hi)) S := d
      rw [cutW_whole hw] at d'
      exact k r H S _ _ .refl R (.tup h l) d'
    · exact k r _ S _ _ (ext_new hp) (rel_new R hp) (rep_tup hp (cut_sim l lo hi)) d
  · rename_i a xs ws h l
    exact .inl ⟨a, xs, rfl, h.1, fun p hp => k _ _ _ _ _ (ext_mem hp) (new_lst R hp (cut_sim l lo hi)) (rep_mem R) d⟩
  · rename_i a j h
    obtain ⟨ws, h0, q⟩ := d
    obtain ⟨xs, h3, l⟩ := R.obj j _ _ h h0
    exact .inl ⟨a, xs, rfl, .of h3, fun p hp => k _ _ _ _ _ (ext_mem hp) (new_lst R hp (cut_sim l lo hi)) (rep_mem R) q⟩
theorem x_slice {lo hi : Option Expr} {p2 : Pos} {dl dh : DO} (ha : XE X a da) (hl : XO X lo dl) (hu : XO X hi dh) : XE X (.Subscript a (.Slice lo hi none p2) pos) (dSl vSl da dl dh) := xe_slice sl_all sl_sim ha hl hu
def vSet (o i v : W) (S : Sto) (Q : Sto → Prop) : Prop := match o, i with
  | .ref p, .int k => ∃ ws j, S[p]? = some (.lst ws) ∧ ixN ws.length k = some j ∧ Q (S.set p (.lst (ws.set j v)))
  | _, _ => False
theorem set_sim {K : Fg} : SimSet K rSetL vSet := by
  intro r H S o i v wo wi w Q Q0 R po pi pv d k
  cases po <;> cases pi <;> try exact d.elim
  rename_i a j h n
  obtain ⟨ws, m, h0, h1, q⟩ := d
  obtain ⟨xs, h3, l⟩ := R.obj j _ _ h h0
  exact ⟨a, xs, n, m, rfl, rfl, h3, by rw [l.length]; exact h1, k r _ _ (ext_wr h h3 trivial) (wr_lst R h h3 (l.set pv m)) q⟩
theorem g_sub (ho : XE X a da) (hi : XE X b db) (ha : ∀ v, assign (.Subscript a b pos) X.env v = (do
      let ov ← holding [v] (eval a X.env)
      let iv ← holding [v, ov] (eval b X.env)
      standAt pos
      holding [v, ov, iv] (setItem ov iv v)
      release [v, ov, iv] []) := by intro _; rfl) : XG X (.Subscript a b pos) (gSb da db vSet) := xg_sub set_list set_sim ho hi ha
/-! ### built-ins -/
def vLen (xs : List W) (S : Sto) (Q : WK) : Prop := match xs with
  | [.str z] => z.length ≤ sizeLine ∧ Q (.int z.length) S
  | [w] => ∃ ws, seqOf S w = some ws ∧ Q (.int ws.length) S
  | _ => False
theorem len_sim {K : Fg} : SimC K (fun xs H Q => ∃ x n, xs = [x] ∧ LenV K x H n ∧ Q (.int n) H) vLen := by
  intro r H S xs ws Q Q0 R l d k
  cases l with
  | nil => exact d.elim
  | cons p l =>
    cases l with
    | cons p' l' => cases p <;> exact d.elim
    | nil =>
      have go : ∀ {v : V} {w : W}, Rep K r H v w → (∃ us, seqOf S w = some us ∧ Q (.int us.length) S) → ∃ x n, [v] = [x] ∧ LenV K x H n ∧ Q0 (.int n) H := fun {v w} p h => by
        obtain ⟨us, hs, q⟩ := h
        obtain ⟨a, xs, rfl, hq, l⟩ := seqOf_sim R p hs
        refine ⟨.ref a, xs.length, rfl, ?_, by rw [l.length]; exact k r H S _ _ .refl R (.int _) q⟩
        rcases hq with hq | hq
        · exact .inl ⟨xs, hq, rfl⟩
        · exact .inr ⟨xs, hq, rfl⟩
      have hp := p
      cases p with
      | str z => exact ⟨_, _, rfl, ⟨d.1, rfl⟩, k r H S _ _ .refl R (.int _) d.2⟩
      | _ => exact go hp d
variable {x : Str} {p : Pos}
theorem c_len (hg : Gl X "len") (hm : X.mg "len" = none) (ha : XA X (e :: es) dA) (he : starEach (e :: es) X.env = (false, eval e X.env) :: starEach es X.env := by rfl) (hpl : (backTo pos (starEach es X.env)).any (·.1) = false := by rfl) : XE X (.Call (.Name "len" p) (e :: es) [] pos) (dCB vLen dA) :=
  xe_callB call_len len_sim hg hm PySem.boot_len ha (by decide) (by decide) he hpl
def vI1 (g : Int → W) (xs : List W) (S : Sto) (Q : WK) : Prop := match xs with
  | [.int i] => Q (g i) S
  | _ => False
theorem abs_sim {K : Fg} : SimC K (fun xs H Q => ∃ i, xs = [.int i] ∧ Q (.int (if i < 0 then -i else i)) H) (vI1 fun i => .int (if i < 0 then -i else i)) := by
  intro r H S xs ws Q Q0 R l d k
  cases l with
  | nil => exact d.elim
  | cons p l =>
    cases l with
    | cons p' l' => cases p <;> exact d.elim
    | nil => cases p <;> first | exact d.elim | exact ⟨_, rfl, k r H S _ _ .refl R (.int _) d⟩
theorem c_abs (hg : Gl X "abs") (hm : X.mg "abs" = none) (ha : XA X (e :: es) dA) (he : starEach (e :: es) X.env = (false, eval e X.env) :: starEach es X.env := by rfl) (hpl : (backTo pos (starEach es X.env)).any (·.1) = false := by rfl) : XE X (.Call (.Name "abs" p) (e :: es) [] pos) (dCB (vI1 fun i => .int (if i < 0 then -i else i)) dA) :=
  xe_callB call_abs abs_sim hg hm (by decide +kernel) ha (by decide) (by decide) he hpl
def vIntOf (xs : List W) (S : Sto) (Q : WK) : Prop := match xs with
  | [.int i] => Q (.int i) S
  | [.bl b] => Q (.int (if b then 1 else 0)) S
  | [.str a] => ∃ n, PySem.intText? a = some n ∧ a.length ≤ 640 ∧ Q (.int n) S
  | _ => False
theorem int_sim {K : Fg} : SimC K (fun xs H Q => ((∃ i, xs = [.int i] ∧ Q (.int i) H) ∨ ∃ k, xs = [.bl k] ∧ Q (.int (if k then 1 else 0)) H) ∨ ∃ a n, xs = [.str a] ∧ PySem.intText? a = some n ∧ a.length ≤ 640 ∧ Q (.int n) H) vIntOf := by
  intro r H S xs ws Q Q0 R l d k
  cases l with
  | nil => exact d.elim
  | cons p l =>
    cases l with
    | cons p' l' => cases p <;> exact d.elim
    | nil =>
      cases p <;> try exact d.elim
      · exact .inl (.inr ⟨_, rfl, k r H S _ _ .refl R (.int _) d⟩)
      · exact .inl (.inl ⟨_, rfl, k r H S _ _ .refl R (.int _) d⟩)
      · obtain ⟨n, h1, h2, q⟩ := d
        exact .inr ⟨_, n, rfl, h1, h2, k r H S _ _ .refl R (.int _) q⟩
theorem c_int (hg : Gl X "int") (hm : X.mg "int" = none) (ha : XA X (e :: es) dA) (he : starEach (e :: es) X.env = (false, eval e X.env) :: starEach es X.env := by rfl) (hpl : (backTo pos (starEach es X.env)).any (·.1) = false := by rfl) : XE X (.Call (.Name "int" p) (e :: es) [] pos) (dCB vIntOf dA) :=
  xe_callTy (CallR.or call_int1 call_int_str) int_sim hg hm (by decide +kernel) ha (by decide) (by decide) he hpl
def vStrOf (xs : List W) (S : Sto) (Q : WK) : Prop := match xs with
  | [.int i] => i.natAbs.log2 < 1920 ∧ Q (.str (toString i)) S
  | [.str a] => Q (.str a) S
  | _ => False
theorem str_sim {K : Fg} : SimC K (fun xs H Q => (∃ i, xs = [.int i] ∧ i.natAbs.log2 < 1920 ∧ Q (.str (toString i)) H) ∨ ∃ a, xs = [.str a] ∧ Q (.str a) H) vStrOf := by
  intro r H S xs ws Q Q0 R l d k
  cases l with
  | nil => exact d.elim
  | cons p l =>
    cases l with
    | cons p' l' => cases p <;> exact d.elim
    | nil =>
      cases p <;> try exact d.elim
      · exact .inl ⟨_, rfl, d.1, k r H S _ _ .refl R (.str _) d.2⟩
      · exact .inr ⟨_, rfl, k r H S _ _ .refl R (.str _) d⟩
theorem c_str (hg : Gl X "str") (hm : X.mg "str" = none) (ha : XA X (e :: es) dA) (he : starEach (e :: es) X.env = (false, eval e X.env) :: starEach es X.env := by rfl) (hpl : (backTo pos (starEach es X.env)).any (·.1) = false := by rfl) : XE X (.Call (.Name "str" p) (e :: es) [] pos) (dCB vStrOf dA) :=
  xe_callTy (CallR.or call_str_int SkE.call_str_str) str_sim hg hm (by decide +kernel) ha (by decide) (by decide) he hpl
def vList (xs : List W) (S : Sto) (Q : WK) : Prop := match xs with
  | [w] => ∃ ws, seqOf S w = some ws ∧ Q (.ref S.length) (S ++ [.lst ws])
  | _ => False
theorem list_sim {K : Fg} : SimC K (fun xs H Q => ∃ p ys, xs = [.ref p] ∧ (SqL K H p ys ∨ SqT K H p ys) ∧ ∀ l, H l = none → Q (.ref l) (upd H l (.lst ys))) vList := by
  intro r H S xs ws Q Q0 R l d k
  cases l with
  | nil => exact d.elim
  | cons p l =>
    cases l with
    | cons p' l' => exact d.elim
    | nil =>
      obtain ⟨us, hs, q⟩ := d
      obtain ⟨a, xs, rfl, hq, l⟩ := seqOf_sim R p hs
      exact ⟨a, xs, rfl, hq, fun p hp => k _ _ _ _ _ (ext_mem hp) (new_lst R hp l) (rep_mem R) q⟩
theorem c_list (hg : Gl X "list") (hm : X.mg "list" = none) (ha : XA X (e :: es) dA) (he : starEach (e :: es) X.env = (false, eval e X.env) :: starEach es X.env := by rfl) (hpl : (backTo pos (starEach es X.env)).any (·.1) = false := by rfl) : XE X (.Call (.Name "list" p) (e :: es) [] pos) (dCB vList dA) :=
  xe_callTy call_list_of list_sim hg hm (by decide +kernel) ha (by decide) (by decide) he hpl
def vTuple (xs : List W) (S : Sto) (Q : WK) : Prop := match xs with
  | [w] => ∃ ws, seqOf S w = some ws ∧ Q (.tup ws) S
  | _ => False
theorem tuple_sim {K : Fg} : SimC K (fun xs H Q => ∃ p ys, xs = [.ref p] ∧ ((SqL K H p ys ∧ ∀ l, H l = none → Q (.ref l) (upd H l (.tup ys))) ∨ (SqT K H p ys ∧ Q (.ref p) H))) vTuple := by
  intro r H S xs ws Q Q0 R l d k
  cases l with
  | nil => exact d.elim
  | cons p l =>
    cases l with
    | cons p' l' => exact d.elim
    | nil =>
      obtain ⟨us, hs, q⟩ := d
      obtain ⟨a, xs, rfl, hq, l⟩ := seqOf_sim R p hs
      refine ⟨a, xs, rfl, ?_⟩
      rcases hq with hq | hq
      · exact .inl ⟨hq, fun p hp => k r _ S _ _ (ext_new hp) (rel_new R hp) (rep_tup hp l) q⟩
      · exact .inr ⟨hq, k r H S _ _ .refl R (.tup hq l) q⟩
theorem c_tuple (hg : Gl X "tuple") (hm : X.mg "tuple" = none) (ha : XA X (e :: es) dA) (he : starEach (e :: es) X.env = (false, eval e X.env) :: starEach es X.env := by rfl) (hpl : (backTo pos (starEach es X.env)).any (·.1) = false := by rfl) : XE X (.Call (.Name "tuple" p) (e :: es) [] pos) (dCB vTuple dA) :=
  xe_callTy call_tuple_of tuple_sim hg hm (by decide +kernel) ha (by decide) (by decide) he hpl
/-- isinstance -/
def tyW (S : Sto) : W → Option String
  | .non => some "NoneType" | .bl _ => some "bool" | .int _ => some "int" | .str _ => some "str" | .tup _ => some "tuple" | .lit _ => some "list"
  | .ref i => match S[i]? with
    | some (.lst _) => some "list"
    | some (.dk _) => some "dict"
    | some (.tk _) => none
    | some (.dt _) => none
    | some (.ft _) => none
    | none => none
  | .raw _ => none
def vIsi (xs : List W) (S : Sto) (Q : WK) : Prop := match xs with
  | [w, .raw (.ty n)] => ∃ t b, tyW S w = some t ∧ kitB t n = some b ∧ Q (.bl b) S
  | _ => False
theorem sqL_ty {K : Fg} {H : Hp} {a : Addr} {xs : List V} (h : SqL K H a xs) : TyX K H (.ref a) (.type "list") := by
  rcases h with (h | ⟨o, h⟩) | ⟨o, its, n, h, hc, _⟩
  · exact .base (.lst h)
  · exact .base (.frz h)
  · exact .kList h hc
theorem sqT_ty {K : Fg} {H : Hp} {a : Addr} {xs : List V} (h : SqT K H a xs) : TyX K H (.ref a) (.type "tuple") := by
  rcases h with (h | ⟨o, h⟩) | ⟨o, its, n, h, hc, _⟩
  · exact .base (.tup h)
  · exact .fTuple h
  · exact .kTuple h hc
theorem tyW_sim {K : Fg} {r : List Addr} {H : Hp} {S : Sto} {v : V} {w : W} {t : String} (R : RelS K r H S) (p : Rep K r H v w) (h : tyW S w = some t) : TyX K H v (.type t) := by
  cases p with
  | non => cases Option.some.inj h; exact .base .non
  | bl b => cases Option.some.inj h; exact .base (.bl b)
  | int b => cases Option.some.inj h; exact .base (.int b)
  | str b => cases Option.some.inj h; exact .base (.str b)
  | tup q l => cases Option.some.inj h; exact sqT_ty q
  | lit q l => cases Option.some.inj h; exact sqL_ty q.1
  | @ref a i q =>
    obtain ⟨o, ho, x⟩ := relO_there R q
    have e : tyW S (.ref i) = some t := h
    simp only [tyW, ho] at e
    cases o with
    | lst us =>
      cases Option.some.inj e
      obtain ⟨xs, h1, l⟩ := x
      exact .base (.lst h1)
    | dk us =>
      cases Option.some.inj e
      obtain ⟨xs, h1, l⟩ := x
      exact .base (.dK h1)
    | tk us => cases e
    | dt us => cases e
    | ft us => cases e
  | raw v => cases h
theorem rep_ty {K : Fg} {r : List Addr} {H : Hp} {v u : V} (p : Rep K r H v (.raw u)) : v = u := by cases p; rfl
theorem isi_sim {K : Fg} : SimC K (rIsi K) vIsi := by
  intro r H S xs ws Q Q0 R l d k
  cases l with
  | nil => exact d.elim
  | @cons v vs w ws p l =>
    cases l with
    | nil => exact d.elim
    | @cons u us z zs p' l' =>
      cases l' with
      | cons p2 l2 =>
        unfold vIsi at d
        split at d
        · rename_i heq
          cases heq
        · exact d.elim
      | nil =>
        unfold vIsi at d
        split at d
        · rename_i w' n heq
          injection heq with e1 e2
          injection e2 with e2 _
          subst e1
          subst e2
          obtain ⟨t, b, h1, h2, q⟩ := d
          have e3 := rep_ty p'
          subst e3
          exact ⟨v, .ty n, .type t, .type n, b, rfl, .ty n, tyW_sim R p h1, kit_ty h2, k r H S _ _ .refl R (.bl b) q⟩
        · exact d.elim
theorem c_isi (hg : Gl X "isinstance") (hm : X.mg "isinstance" = none) (ha : XA X (e :: es) dA) (he : starEach (e :: es) X.env = (false, eval e X.env) :: starEach es X.env := by rfl) (hpl : (backTo pos (starEach es X.env)).any (·.1) = false := by rfl) : XE X (.Call (.Name "isinstance" p) (e :: es) [] pos) (dCB vIsi dA) :=
  xe_callB call_isi isi_sim hg hm (by decide +kernel) ha (by decide) (by decide) he hpl
/-- any, all of a list of bools; sum of ints -/
def vAny (f : List Bool → Bool) (xs : List W) (S : Sto) (Q : WK) : Prop := match xs with
  | [.ref i] => ∃ bs : List Bool, S[i]? = some (.lst (bs.map W.bl)) ∧ Q (.bl (f bs)) S
  | _ => False
theorem any_sim {K : Fg} {f : List Bool → Bool} : SimC K (fun vs H Q => ∃ (a : Addr) (bs : List Bool), vs = [V.ref a] ∧ SqL K H a (bs.map V.bl) ∧ Q (.bl (f bs)) H) (vAny f) := by
  intro r H S xs ws Q Q0 R l d k
  cases l with
  | nil => exact d.elim
  | cons p l =>
    cases l with
    | cons p' l' => cases p <;> exact d.elim
    | nil =>
      cases p <;> try exact d.elim
      rename_i a i h
      obtain ⟨bs, h0, q⟩ := d
      obtain ⟨xs, h3, l⟩ := R.obj i _ _ h h0
      have e := repL_bls l
      subst e
      exact ⟨a, bs, rfl, .of h3, k r H S _ _ .refl R (.bl _) q⟩
theorem c_any (hc : X.calm = true) (hg : Gl X "any") (hm : X.mg "any" = none) (ha : XA X (e :: es) dA) (he : starEach (e :: es) X.env = (false, eval e X.env) :: starEach es X.env := by rfl) (hpl : (backTo pos (starEach es X.env)).any (·.1) = false := by rfl) : XE X (.Call (.Name "any" p) (e :: es) [] pos) (dCB (vAny fun bs => bs.any id) dA) :=
  xe_callB (cr_any hc) any_sim hg hm (by decide +kernel) ha (by decide) (by decide) he hpl
theorem c_all (hc : X.calm = true) (hg : Gl X "all") (hm : X.mg "all" = none) (ha : XA X (e :: es) dA) (he : starEach (e :: es) X.env = (false, eval e X.env) :: starEach es X.env := by rfl) (hpl : (backTo pos (starEach es X.env)).any (·.1) = false := by rfl) : XE X (.Call (.Name "all" p) (e :: es) [] pos) (dCB (vAny fun bs => bs.all id) dA) :=
  xe_callB (cr_all hc) any_sim hg hm (by decide +kernel) ha (by decide) (by decide) he hpl
def vSum (xs : List W) (S : Sto) (Q : WK) : Prop := match xs with
  | [.ref i] => ∃ bs : List Int, S[i]? = some (.lst (bs.map W.int)) ∧ Q (.int bs.sum) S
  | _ => False
theorem sum_sim {K : Fg} : SimC K (rSum K) vSum := by
  intro r H S xs ws Q Q0 R l d k
  cases l with
  | nil => exact d.elim
  | cons p l =>
    cases l with
    | cons p' l' => cases p <;> exact d.elim
    | nil =>
      cases p <;> try exact d.elim
      rename_i a i h
      obtain ⟨bs, h0, q⟩ := d
      obtain ⟨xs, h3, l⟩ := R.obj i _ _ h h0
      have e := repL_ints l
      subst e
      exact ⟨a, bs, rfl, .of h3, k r H S _ _ .refl R (.int _) q⟩
theorem c_sum (hc : X.calm = true) (hg : Gl X "sum") (hm : X.mg "sum" = none) (ha : XA X (e :: es) dA) (he : starEach (e :: es) X.env = (false, eval e X.env) :: starEach es X.env := by rfl) (hpl : (backTo pos (starEach es X.env)).any (·.1) = false := by rfl) : XE X (.Call (.Name "sum" p) (e :: es) [] pos) (dCB vSum dA) :=
  xe_callB (cr_sum hc) sum_sim hg hm (by decide +kernel) ha (by decide) (by decide) he hpl
/-! ### methods -/
variable {apos cpos : Pos}
def vAppend (x : W) (ws : List W) (S : Sto) (Q : WK) : Prop := match x, ws with
  | .ref i, [y] => ∃ zs, S[i]? = some (.lst zs) ∧ zs.length < sizeLine ∧ Q .non (S.set i (.lst (zs ++ [y])))
  | _, _ => False
theorem append_sim {K : Fg} : SimM K rAppend vAppend := by
  intro r H S x xs wx ws Q Q0 R px l d k
  cases px <;> try (cases l <;> exact d.elim)
  rename_i a i h
  cases l with
  | nil => exact d.elim
  | cons p l =>
    cases l with
    | cons p' l' => exact d.elim
    | nil =>
      obtain ⟨zs, h0, hz, q⟩ := d
      obtain ⟨xs, h3, l⟩ := R.obj i _ _ h h0
      exact ⟨a, xs, _, rfl, rfl, h3, by rw [l.length]; exact hz, k r _ _ _ _ (ext_wr h h3 trivial) (wr_lst R h h3 (l.app (.one p))) .non q⟩
theorem m_append {dr : DA} (ho : XE X o d0) (ha : XA X (e :: es) dr) (hbase : attributeBase o "append" X.env (eval o X.env) = eval o X.env := by rfl)
    (hfew : ((backTo cpos (starEach (e :: es) X.env)).all (fun x => !x.1) && (backToKw cpos (keywordEach [] X.env)).all (fun x => x.1.isSome)
      && decide ((e :: es).length + ([] : List Keyword).length + (if ([] : List Keyword).isEmpty then 0 else 1) < 30)) = true := by rfl)
    (hline : (apos.endLine == cpos.line) = true := by rfl) (hs : starEach (e :: es) X.env = (false, eval e X.env) :: starEach es X.env := by rfl) (hplain : (backTo cpos (starEach es X.env)).any (·.1) = false := by rfl) :
    XE X (.Call (.Attribute o "append" apos) (e :: es) [] cpos) (dBM "list" vAppend d0 dr) :=
  xe_bm PySem.F.plainAttrs_list PySem.F.slot_list_append PySem.F.type_list_append mt_append append_sim ho ha hbase hfew hline hs hplain
def vPop0 (x : W) (ws : List W) (S : Sto) (Q : WK) : Prop := match x, ws with
  | .ref i, [] => ∃ zs y, S[i]? = some (.lst zs) ∧ zs[zs.length - 1]? = some y ∧ Q y (S.set i (.lst zs.dropLast))
  | _, _ => False
theorem pop0_sim {K : Fg} : SimM K rPop vPop0 := by
  intro r H S x xs wx ws Q Q0 R px l d k
  cases px <;> try (cases l <;> exact d.elim)
  rename_i a i h
  cases l with
  | cons p l => exact d.elim
  | nil =>
    obtain ⟨zs, y, h0, hy, q⟩ := d
    obtain ⟨xs, h3, l⟩ := R.obj i _ _ h h0
    obtain ⟨v, hv, pv⟩ := l.get hy
    exact ⟨a, xs, v, rfl, rfl, h3, by rw [l.length]; exact hv, k r _ _ _ _ (ext_wr h h3 trivial) (wr_lst R h h3 l.dropLast) (pv.mono (ext_wr h h3 trivial)) q⟩
theorem m_pop0 (ho : XE X o d0) (hbase : attributeBase o "pop" X.env (eval o X.env) = eval o X.env := by rfl) (hline : (apos.endLine == cpos.line) = true := by rfl) :
    XE X (.Call (.Attribute o "pop" apos) [] [] cpos) (dBM0 "list" vPop0 d0) :=
  xe_bm0 PySem.F.plainAttrs_list PySem.F.slot_list_pop PySem.F.type_list_pop mt_pop pop0_sim ho hbase hline
def vPop1 (x : W) (ws : List W) (S : Sto) (Q : WK) : Prop := match x, ws with
  | .ref i, [.int n] => ∃ zs j y, S[i]? = some (.lst zs) ∧ -(2 ^ 63) ≤ n ∧ n < 2 ^ 63 ∧ ixN zs.length n = some j ∧ zs[j]? = some y ∧ Q y (S.set i (.lst (zs.eraseIdx j)))
  | _, _ => False
theorem pop1_sim {K : Fg} : SimM K rPopAt vPop1 := by
  intro r H S x xs wx ws Q Q0 R px l d k
  cases px <;> try (cases l <;> exact d.elim)
  rename_i a i h
  cases l with
  | nil => exact d.elim
  | cons p l =>
    cases l with
    | cons p' l' => cases p <;> exact d.elim
    | nil =>
      cases p <;> try exact d.elim
      rename_i n
      obtain ⟨zs, j, y, h0, n1, n2, hj, hy, q⟩ := d
      obtain ⟨xs, h3, l⟩ := R.obj i _ _ h h0
      obtain ⟨v, hv, pv⟩ := l.get hy
      exact ⟨a, xs, n, j, v, rfl, rfl, h3, n1, n2, by rw [l.length]; exact (ixN_seq hj).1, hv, k r _ _ _ _ (ext_wr h h3 trivial) (wr_lst R h h3 (l.eraseIdx j)) (pv.mono (ext_wr h h3 trivial)) q⟩
theorem m_pop1 {dr : DA} (ho : XE X o d0) (ha : XA X (e :: es) dr) (hbase : attributeBase o "pop" X.env (eval o X.env) = eval o X.env := by rfl)
    (hfew : ((backTo cpos (starEach (e :: es) X.env)).all (fun x => !x.1) && (backToKw cpos (keywordEach [] X.env)).all (fun x => x.1.isSome)
      && decide ((e :: es).length + ([] : List Keyword).length + (if ([] : List Keyword).isEmpty then 0 else 1) < 30)) = true := by rfl)
    (hline : (apos.endLine == cpos.line) = true := by rfl) (hs : starEach (e :: es) X.env = (false, eval e X.env) :: starEach es X.env := by rfl) (hplain : (backTo cpos (starEach es X.env)).any (·.1) = false := by rfl) :
    XE X (.Call (.Attribute o "pop" apos) (e :: es) [] cpos) (dBM "list" vPop1 d0 dr) :=
  xe_bm PySem.F.plainAttrs_list PySem.F.slot_list_pop PySem.F.type_list_pop mt_popAt pop1_sim ho ha hbase hfew hline hs hplain
def vJoin (x : W) (ws : List W) (S : Sto) (Q : WK) : Prop := match x, ws with
  | .str a, [w] => ∃ ys : List Str, seqOf S w = some (ys.map W.str) ∧ (ys.map (·.length)).sum + ys.length * a.length ≤ 16777216 ∧ Q (.str (Txt.join a ys)) S
  | _, _ => False
theorem join_sim {K : Fg} : SimM K (fun x xs H Q => ∃ a p, ∃ ys : List Str, x = .str a ∧ xs = [.ref p] ∧ (SqL K H p (ys.map V.str) ∨ SqT K H p (ys.map V.str)) ∧
    (ys.map (·.length)).sum + ys.length * a.length ≤ 16777216 ∧ Q (.str (Txt.join a ys)) H) vJoin := by
  intro r H S x xs wx ws Q Q0 R px l d k
  cases px <;> try (cases l <;> exact d.elim)
  cases l with
  | nil => exact d.elim
  | cons p l =>
    cases l with
    | cons p' l' => exact d.elim
    | nil =>
      obtain ⟨ys, h0, hz, q⟩ := d
      obtain ⟨a, xs, rfl, hq, l⟩ := seqOf_sim R p h0
      have e := repL_strs l
      subst e
      exact ⟨_, a, ys, rfl, rfl, hq, hz, k r H S _ _ .refl R (.str _) q⟩
theorem m_join {dr : DA} (ho : XE X o d0) (ha : XA X (e :: es) dr) (hbase : attributeBase o "join" X.env (eval o X.env) = eval o X.env := by rfl)
    (hfew : ((backTo cpos (starEach (e :: es) X.env)).all (fun x => !x.1) && (backToKw cpos (keywordEach [] X.env)).all (fun x => x.1.isSome)
      && decide ((e :: es).length + ([] : List Keyword).length + (if ([] : List Keyword).isEmpty then 0 else 1) < 30)) = true := by rfl)
    (hline : (apos.endLine == cpos.line) = true := by rfl) (hs : starEach (e :: es) X.env = (false, eval e X.env) :: starEach es X.env := by rfl) (hplain : (backTo cpos (starEach es X.env)).any (·.1) = false := by rfl) :
    XE X (.Call (.Attribute o "join" apos) (e :: es) [] cpos) (dBM "str" vJoin d0 dr) :=
  xe_bm PySem.F.plainAttrs_str PySem.F.slot_str_join PySem.F.type_str_join mt_join join_sim ho ha hbase hfew hline hs hplain
end
end DL

/-! DLe: sorted, calls of defs by position and by keywords. -/
namespace DL
open PySem PySem.Spec PyProof.Rows L2

/-! ### sorted, of data of any kind -/
def rSortD (K : Fg) : List V → Hp → VK → Prop := fun vs H Q => ∃ (a : Addr) (bs : List (V × DL.W)), vs = [.ref a] ∧ SqL K H a (bs.map (·.1)) ∧ (∀ b ∈ bs, Dp K H b.1 (datW b.2)) ∧
  PySem.W.AllAlike (bs.map fun b => datW b.2) ∧ PySem.W.Sortable (bs.map fun b => datW b.2) ∧ (∀ b ∈ bs, (datW b.2).depth ≤ 60) ∧
  ∀ p, H p = none → Q (.ref p) (upd H p (.lst ((bs.mergeSort (PySem.W.dataLe false fun b => datW b.2)).map (·.1))))
theorem each_vals : ∀ {bs : List (V × DL.W)} {us : List Value}, Vals (bs.map (·.1)) us → PySem.W.EachIs (fun (v : Value) (b : V × DL.W) => RelV b.1 v) us bs
  | [], _, .nil => .nil
  | b :: bs, _, .cons r t => .cons r (each_vals t)
theorem vals_each : ∀ {bs : List (V × DL.W)} {us : List Value}, PySem.W.EachIs (fun (v : Value) (b : V × DL.W) => RelV b.1 v) us bs → Vals (bs.map (·.1)) us
  | _, _, .nil => .nil
  | _, _, .cons r t => .cons r (vals_each t)
section
variable {X : Cx}
theorem cr_sortD (hu : X.A.units + 64 < cLine) : CallR X (.builtin "sorted") (rSortD X.K) := by
  intro pins s σ H vs us Q I r h
  obtain ⟨a, bs, rfl, hs, hd, al, so, dp, q⟩ := h
  obtain ⟨its, rv, hl, hz⟩ := I.list hs
  rw [Vals.ref1 r]
  have e := each_vals rv
  have er : PySem.W.EachIs (fun (v : Value) (b : V × DL.W) => ∃ as, Reads s.heap v (datW b.2) as) its bs := by
    have go : ∀ {cs : List (V × DL.W)} {ws : List Value}, (∀ b ∈ cs, b ∈ bs) → PySem.W.EachIs (fun (v : Value) (b : V × DL.W) => RelV b.1 v) ws cs → PySem.W.EachIs (fun (v : Value) (b : V × DL.W) => ∃ as, Reads s.heap v (datW b.2) as) ws cs := by
      intro cs ws hm h
      induction h with
      | nil => exact .nil
      | cons r t ih => exact .cons (Dp.reads I _ _ _ (hd _ (hm _ List.mem_cons_self)) r) (ih fun b hb => hm b (List.mem_cons_of_mem _ hb))
    exact go (fun _ h => h) e
  have hlen : bs.length ≤ sizeLine := by
    rw [List.length_map] at hz
    exact hz
  refine PySem.W.sorted_data hl.isList e er (by exact al) (by exact so) hlen (fun b hb => by have := dp b hb; omega) fun out ho eo => ?_
  obtain ⟨ep, he'⟩ := PyProof.Rows.sortedAll_at s.heap its (List.toArray out)
  have vo := vals_each eo
  exact ⟨.ref _, upd H (s.heap.objs.size + 1) (.lst ((bs.mergeSort (PySem.W.dataLe false fun b => datW b.2)).map (·.1))), I.laid (t' := s.toks) (fun _ _ => PyProof.Rows.sortedAll_old) (Nat.le_succ _)
    ⟨by rw [List.length_map, List.length_mergeSort]; exact hlen, out, ep, vo, he'⟩, rfl, q _ (I.hok.fresh (Nat.le_succ _))⟩
end
def leW (a b : DL.W) : Bool := PySem.W.dataLe false datW a b
def vSorted (xs : List DL.W) (S : Sto) (Q : WK) : Prop := match xs with
  | [.ref i] => ∃ ws, S[i]? = some (.lst ws) ∧ W.pureL ws = true ∧ PySem.W.AllAlike (ws.map datW) ∧ PySem.W.Sortable (ws.map datW) ∧ (∀ w ∈ ws, (datW w).depth ≤ 60) ∧ Q (.ref S.length) (S ++ [.lst (ws.mergeSort leW)])
  | [.lit ws] => W.pureL ws = true ∧ PySem.W.AllAlike (ws.map datW) ∧ PySem.W.Sortable (ws.map datW) ∧ (∀ w ∈ ws, (datW w).depth ≤ 60) ∧ Q (.ref S.length) (S ++ [.lst (ws.mergeSort leW)])
  | _ => False
theorem zip_fst {α β : Type} : ∀ {xs : List α} {ys : List β}, xs.length = ys.length → (xs.zip ys).map (·.1) = xs
  | [], [], _ => rfl
  | [], _ :: _, h => by cases h
  | _ :: _, [], h => by cases h
  | x :: xs, y :: ys, h => by
    show x :: (xs.zip ys).map (·.1) = x :: xs
    rw [zip_fst (Nat.succ.inj h)]
theorem zip_snd {α β : Type} : ∀ {xs : List α} {ys : List β}, xs.length = ys.length → (xs.zip ys).map (·.2) = ys
  | [], [], _ => rfl
  | [], _ :: _, h => by cases h
  | _ :: _, [], h => by cases h
  | x :: xs, y :: ys, h => by
    show y :: (xs.zip ys).map (·.2) = y :: ys
    rw [zip_snd (Nat.succ.inj h)]
theorem repL_zip {K : Fg} {r : List Addr} {H : Hp} : ∀ {vs : List V} {ws : List DL.W}, RepL K r H vs ws → ∀ b ∈ vs.zip ws, Rep K r H b.1 b.2
  | _, _, .nil => fun b hb => nomatch hb
  | _, _, .cons h l => fun b hb => by
    rcases List.mem_cons.mp hb with e | m
    · rw [e]
      exact h
    · exact repL_zip l b m
theorem repL_of_pairs {K : Fg} {r : List Addr} {H : Hp} : ∀ {bs : List (V × DL.W)}, (∀ b ∈ bs, Rep K r H b.1 b.2) → RepL K r H (bs.map (·.1)) (bs.map (·.2))
  | [], _ => .nil
  | b :: bs, h => .cons (h b List.mem_cons_self) (repL_of_pairs fun c hc => h c (List.mem_cons_of_mem _ hc))
theorem pureL_mem {ws : List DL.W} (h : W.pureL ws = true) : ∀ w ∈ ws, w.pure = true := by
  induction ws with
  | nil => intro w hw; cases hw
  | cons u us ih =>
    have b : (u.pure && W.pureL us) = true := h
    rw [Bool.and_eq_true] at b
    intro w hw
    rcases List.mem_cons.mp hw with e | m
    · rw [e]; exact b.1
    · exact ih b.2 w m
theorem sorted_sim {K : Fg} : SimC K (rSortD K) vSorted := by
  intro r H S xs ws Q Q0 R l d k
  have go : ∀ {a : Addr} {vs : List V} {us : List DL.W}, SqL K H a vs → RepL K r H vs us → W.pureL us = true → PySem.W.AllAlike (us.map datW) → PySem.W.Sortable (us.map datW) → (∀ w ∈ us, (datW w).depth ≤ 60) → Q (.ref S.length) (S ++ [.lst (us.mergeSort leW)]) → rSortD K [.ref a] H Q0 := by
    intro a vs us hs l hp al so dp q
    have hl := l.length
    have e1 := zip_fst hl
    have e2 := zip_snd hl
    have e3 : (vs.zip us).map (fun b => datW b.2) = us.map datW := by
      have e5 : (vs.zip us).map (fun b => datW b.2) = ((vs.zip us).map (·.2)).map datW := by
        rw [List.map_map]
        rfl
      rw [e5, e2]
    refine ⟨a, vs.zip us, rfl, by rw [e1]; exact hs, fun b hb => dp_of (repL_zip l b hb) (pureL_mem hp _ (by rw [← e2]; exact List.mem_map_of_mem hb)), by rw [e3]; exact al, by rw [e3]; exact so, fun b hb => dp _ (by rw [← e2]; exact List.mem_map_of_mem hb), fun p hp' => ?_⟩
    have e4 : ((vs.zip us).mergeSort (PySem.W.dataLe false fun b => datW b.2)).map (·.2) = us.mergeSort leW := by
      have z := List.map_mergeSort (r := PySem.W.dataLe false fun b : V × DL.W => datW b.2) (s := leW) (f := fun b : V × DL.W => b.2) (l := vs.zip us) fun x _ y _ => rfl
      rw [z, e2]
    have rl : RepL K r H (((vs.zip us).mergeSort (PySem.W.dataLe false fun b => datW b.2)).map (·.1)) (us.mergeSort leW) := by
      rw [← e4]
      exact repL_of_pairs fun b hb => repL_zip l b ((List.mergeSort_perm _ _).mem_iff.mp hb)
    exact k _ _ _ _ _ (ext_mem hp') (new_lst R hp' rl) (rep_mem R) q
  cases l with
  | nil => exact d.elim
  | cons p l =>
    cases l with
    | cons p' l' => cases p <;> exact d.elim
    | nil =>
      cases p <;> try exact d.elim
      · rename_i a vs us h l
        obtain ⟨h1, h2, h3, h4, q⟩ := d
        exact go h.1 l h1 h2 h3 h4 q
      · rename_i a i h
        obtain ⟨us, h0, h1, h2, h3, h4, q⟩ := d
        obtain ⟨vs, h5, l⟩ := R.obj i _ _ h h0
        exact go (.of h5) l h1 h2 h3 h4 q
section
variable {X : Cx} {e : Expr} {es : List Expr} {dA : DA} {pos p : Pos}
theorem c_sorted (hu : X.A.units + 64 < cLine) (hg : Gl X "sorted") (hm : X.mg "sorted" = none) (ha : XA X (e :: es) dA) (he : starEach (e :: es) X.env = (false, eval e X.env) :: starEach es X.env := by rfl) (hpl : (backTo pos (starEach es X.env)).any (·.1) = false := by rfl) : XE X (.Call (.Name "sorted" p) (e :: es) [] pos) (dCB vSorted dA) :=
  xe_callB (cr_sortD hu) sorted_sim hg hm (by decide +kernel) ha (by decide) (by decide) he hpl
end

/-! ### defs: what they promise, how they are called -/
structure TDef (P : Program) (w : World) (K : Fg) (mg : Str → Option Value) (base : Heap) (k : Nat) (x : Str) (st : Stmt) (ps : List Str) (F : DSpec) : Prop where
  ex : ∃ f fd, FnOk P w K mg base CX0 k f fd ps (spOf K F) ∧ mg x = some (.ref f) ∧ PySem.W.keepIn K (.ref f) = true ∧ Binds K fd ps [] ∧
    ∃ (kV doc pm : Value) (an : Option Addr) (cdv ct : Value), fd = PySem.W.fnOf x x (defArgs st) (defBody st) (defScope st) .none kV doc pm an cdv ct
def permL {α : Type} (perm : List Nat) (l : List α) : List α := perm.filterMap fun i => l[i]?
/-- how n values by position and those of the keywords ks come to the parameters -/
structure KPat (x : Str) (st : Stmt) (ps : List Str) (n : Nat) (ks : List Str) (perm : List Nat) : Prop where
  bind : ∀ (kV doc pm : Value) (an : Option Addr) (cdv ct : Value) (us ws : List Value), us.length = n → ws.length = ks.length →
    bindArgs (PySem.W.fnOf x x (defArgs st) (defBody st) (defScope st) .none kV doc pm an cdv ct) ⟨us, ks.zip ws⟩ = pure (ps.zip (permL perm (us ++ ws)))
  ne : ps ≠ []
theorem valsPerm {vs : List V} {us : List Value} (r : Vals vs us) : ∀ perm : List Nat, Vals (permL perm vs) (permL perm us)
  | [] => .nil
  | i :: perm => by
    unfold permL
    cases h : vs[i]? with
    | none =>
      have h2 := r.none_of h
      rw [List.filterMap_cons_none h, List.filterMap_cons_none h2]
      exact valsPerm r perm
    | some v =>
      obtain ⟨u, h2, q⟩ := r.get h
      rw [List.filterMap_cons_some h, List.filterMap_cons_some h2]
      exact .cons q (valsPerm r perm)
theorem RepL.perm {K : Fg} {r : List Addr} {H : Hp} {vs : List V} {ws : List DL.W} (l : RepL K r H vs ws) : ∀ perm : List Nat, RepL K r H (permL perm vs) (permL perm ws)
  | [] => .nil
  | i :: perm => by
    unfold permL
    cases h : ws[i]? with
    | none =>
      have h2 : vs[i]? = none := by
        rw [List.getElem?_eq_none_iff, l.length]
        exact List.getElem?_eq_none_iff.mp h
      rw [List.filterMap_cons_none h, List.filterMap_cons_none h2]
      exact RepL.perm l perm
    | some v =>
      obtain ⟨u, h2, q⟩ := l.get h
      rw [List.filterMap_cons_some h, List.filterMap_cons_some h2]
      exact .cons q (RepL.perm l perm)
open Classical in
theorem kb_of {K : Fg} {x : Str} {st : Stmt} {ps ks : List Str} {n : Nat} {perm : List Nat} {fd : FuncData} (h : KPat x st ps n ks perm) (hf : ∃ (kV doc pm : Value) (an : Option Addr) (cdv ct : Value), fd = PySem.W.fnOf x x (defArgs st) (defBody st) (defScope st) .none kV doc pm an cdv ct) :
    KBinds K fd ps ks (fun us ws => if us.length = n ∧ ws.length = ks.length then permL perm (us ++ ws) else []) (fun us ws => if us.length = n ∧ ws.length = ks.length then permL perm (us ++ ws) else []) := by
  obtain ⟨kV, doc, pm, an, cdv, ct, rfl⟩ := hf
  refine ⟨fun s us ws _ hl => ?_, fun {vs us zs ws} r1 r2 => ?_⟩
  · by_cases c : us.length = n ∧ ws.length = ks.length
    · rw [if_pos c]
      exact .of_eq (h.bind kV doc pm an cdv ct us ws c.1 c.2)
    · rw [if_neg c] at hl
      exact absurd (List.eq_nil_of_length_eq_zero hl.symm) h.ne
  · rw [r1.length, r2.length]
    split
    · exact valsPerm (r1.append r2) perm
    · exact .nil
section
variable {X : Cx} {pos p kpos : Pos} {e : Expr} {es : List Expr} {kws : List Keyword} {x : Str} {de : DE} {da dk : DA} {k j : Nat} {st : Stmt} {ps ks : List Str} {F : DSpec}
theorem c_def (G : TDef X.prog X.w X.K X.mg X.base k x st ps F) (hr : Room j X.A) (ha : XA X (e :: es) da) (hk : k ≤ j := by decide) (hg : Gl X x := by rfl)
    (hdb : (x == ("__debug__" : Str)) = false := by decide) (he : starEach (e :: es) X.env = (false, eval e X.env) :: starEach es X.env := by rfl) (hpl : (backTo pos (starEach es X.env)).any (·.1) = false := by rfl) :
    XE X (.Call (.Name x p) (e :: es) [] pos) (dCall F da) := by
  obtain ⟨f, fd, h1, h2, h3, h4, _⟩ := G.ex
  exact xe_call h1 (hr.mono hk) hg h2 h3 h4 ha hdb he hpl
theorem c_def0 (G : TDef X.prog X.w X.K X.mg X.base k x st ps F) (hr : Room j X.A) (hk : k ≤ j := by decide) (hg : Gl X x := by rfl) (hdb : (x == ("__debug__" : Str)) = false := by decide) : XE X (.Call (.Name x p) [] [] pos) (dCall F aNil) := by
  obtain ⟨f, fd, h1, h2, h3, h4, _⟩ := G.ex
  exact xe_call0 h1 (hr.mono hk) hg h2 h3 h4 hdb
structure XK (X : Cx) (kws : List Keyword) (d : DA) : Prop where
  ex : ∃ t, PK X kws t ∧ SimA X.K t d
theorem xk_nil : XK X [] aNil := ⟨_, pk_nil, fun r H S s env Q Q0 R E d k => k r H S [] [] .refl R .nil d⟩
theorem xk_cons {nm : Option Str} (ha : XE X e de) (hr : XK X kws dk) : XK X (⟨nm, e, kpos⟩ :: kws) (aCons de dk) := by
  obtain ⟨ta, pa, sa⟩ := ha.ex
  obtain ⟨tr, pr, sr⟩ := hr.ex
  exact ⟨_, pk_cons pa pr, sim_cons sa sr⟩
theorem pe_callK0 {CX : CXT} {f : Addr} {fd : FuncData} {sp : Sp} {E : L2.XK} {tk : TA} {g : List Value → List Value → List Value} {gV : List V → List V → List V} (G : FnOk X.prog X.w X.K X.mg X.base CX k f fd ps sp) (hr : Room k X.A) (hg : Gl X x) (hm : X.mg x = some (.ref f)) (hk : PySem.W.keepIn X.K (.ref f) = true) (hb : KBinds X.K fd ps ks g gV) (hx : Passes CX X E)
    (hkw : PK X kws tk) (hall : (backToKw pos (keywordEach kws X.env)).all (·.1.isSome) = true := by rfl) (hks : (backToKw pos (keywordEach kws X.env)).filterMap (·.1) = ks := by rfl)
    (hdb : (x == ("__debug__" : Str)) = false := by decide) (hpl : ((backTo pos (starEach [] X.env)).any (·.1) || (backToKw pos (keywordEach kws X.env)).any (·.1.isNone)) = false := by rfl) :
    PE X (.Call (.Name x p) [] kws pos) (tCallK sp gV E tNil tk) := by
  refine ⟨fun pins s σ H Q I h => ?_⟩
  refine wpAny_Call_Name_kw (ld_glob I hg hm ?_ hdb)
  refine PySem.W.callWith_KW0 (h₀ := X.base) I.ok.mod.kin hk hall (thn (hkw.run pos pins s σ H _ I h) fun ws s2 ⟨zs, H2, I2, rz, q2⟩ => ⟨I2.kIn, ?_⟩) hpl
  rw [hks]
  exact run_fnk (us := []) (vs := []) G hr hb hx I2 .nil rz q2
def dCallK (F : DSpec) (perm : List Nat) (n m : Nat) (da dk : DA) : DE := fun env S Q => da env S fun us S1 => dk env S1 fun ws S2 => us.length = n ∧ ws.length = m ∧ F (permL perm (us ++ ws)) S2 Q
theorem sim_callK {K : Fg} {n : Nat} {perm : List Nat} {ta tk : TA} {m : Nat} (hm : m = ks.length) (sa : SimA K ta da) (sk : SimA K tk dk) :
    Sim K (tCallK (spOf K F) (fun us ws => if us.length = n ∧ ws.length = ks.length then permL perm (us ++ ws) else []) E0 ta tk) (dCallK F perm n m da dk) := fun r H S s env Q Q0 R E d k =>
  sa r H S s env _ _ R E d fun r1 H1 S1 vs ws e1 R1 q1 d1 => sk r1 H1 S1 s env _ _ R1 (E.mono e1) d1 fun r2 H2 S2 us zs e2 R2 q2 d2 => by
    have l1 := q1.length
    have l2 := q2.length
    refine ⟨r2, S2, permL perm (ws ++ zs), Q, R2, ?_, d2.2.2, fun r3 H3 S3 v w e3 => k r3 H3 S3 v w ((e1.trans e2).trans e3)⟩
    show RepL K r2 H2 (if vs.length = n ∧ us.length = ks.length then permL perm (vs ++ us) else []) _
    rw [if_pos ⟨by rw [l1]; exact d2.1, by rw [l2, ← hm]; exact d2.2.1⟩]
    exact ((q1.mono e2).app q2).perm perm
theorem c_defk {n m : Nat} {perm : List Nat} (G : TDef X.prog X.w X.K X.mg X.base k x st ps F) (kb : KPat x st ps n ks perm) (hr : Room j X.A) (ha : XA X (e :: es) da) (hkw : XK X kws dk) (hm : m = ks.length := by rfl) (hk : k ≤ j := by decide) (hg : Gl X x := by rfl)
    (hall : (backToKw pos (keywordEach kws X.env)).all (·.1.isSome) = true := by rfl) (hks : (backToKw pos (keywordEach kws X.env)).filterMap (·.1) = ks := by rfl)
    (hdb : (x == ("__debug__" : Str)) = false := by decide) (he : starEach (e :: es) X.env = (false, eval e X.env) :: starEach es X.env := by rfl)
    (hpl : ((backTo pos (starEach (e :: es) X.env)).any (·.1) || (backToKw pos (keywordEach kws X.env)).any (·.1.isNone)) = false := by rfl) : XE X (.Call (.Name x p) (e :: es) kws pos) (dCallK F perm n m da dk) := by
  obtain ⟨f, fd, h1, h2, h3, h4, h5⟩ := G.ex
  obtain ⟨ta, pa, sa⟩ := ha.ex
  obtain ⟨tk, pk, sk⟩ := hkw.ex
  exact ⟨_, pe_callK h1 (hr.mono hk) hg h2 h3 (kb_of kb h5) pass0 pa pk hall hks hdb he hpl, sim_callK hm sa sk⟩
theorem c_defk0 {n m : Nat} {perm : List Nat} (G : TDef X.prog X.w X.K X.mg X.base k x st ps F) (kb : KPat x st ps n ks perm) (hr : Room j X.A) (hkw : XK X kws dk) (hm : m = ks.length := by rfl) (hk : k ≤ j := by decide) (hg : Gl X x := by rfl)
    (hall : (backToKw pos (keywordEach kws X.env)).all (·.1.isSome) = true := by rfl) (hks : (backToKw pos (keywordEach kws X.env)).filterMap (·.1) = ks := by rfl)
    (hdb : (x == ("__debug__" : Str)) = false := by decide) (hpl : ((backTo pos (starEach [] X.env)).any (·.1) || (backToKw pos (keywordEach kws X.env)).any (·.1.isNone)) = false := by rfl) : XE X (.Call (.Name x p) [] kws pos) (dCallK F perm n m aNil dk) := by
  obtain ⟨f, fd, h1, h2, h3, h4, h5⟩ := G.ex
  obtain ⟨tk, pk, sk⟩ := hkw.ex
  exact ⟨_, pe_callK0 h1 (hr.mono hk) hg h2 h3 (kb_of kb h5) pass0 pk hall hks hdb hpl, sim_callK hm (fun r H S s env Q Q0 R E d k => k r H S [] [] .refl R .nil d) sk⟩
end
/-- a def as it stands behind the top -/
structure TFun (K : Fg) (mg : Str → Option Value) (x : Str) (st : Stmt) (ps : List Str) : Prop where
  ex : ∃ f fd, Fun K x x st f fd ∧ mg x = some (.ref f) ∧ Binds K fd ps []
section
variable {P : Program} {w : World} {K : Fg} {mg : Str → Option Value} {base : Heap}
abbrev endsW (n : Nat) (Q : WK) : DEnds := { nx := fun _ S' => Ends0 n Q .non S', rt := Ends0 n Q, bk := fun _ _ => False, ct := fun _ _ => False }
theorem TFun.ok {x : Str} {st : Stmt} {N ps : List Str} {k : Nat} {F : DSpec} {d : DS} (T : TFun K mg x st ps) (Sc : FnScope N ps (defScope st))
    (der : ∀ (f : Addr) (cdv : Value) (A : Around) (outer : List PySem.Env) (s : Shared) (H : Hp) (E : L2.XK), Room k (A.deeper (envOfC x (defScope st) s.heap.objs.size f cdv)) → XSs (cxOf CX0 P w K mg base N x (defScope st) f cdv A outer s H E).nox (defBody st) d)
    (len : ∀ ws S Q, F ws S Q → ws.length = ps.length) (vc : ∀ ws S Q, Closed S → F ws S Q → d (endsW S.length Q) (startW N.length ws) S) : TDef P w K mg base (k + 1) x st ps F := by
  obtain ⟨f, fd, h1, h2, h3⟩ := T.ex
  obtain ⟨_, _, kV, doc, pm, an, cdv, ct, _, e, _⟩ := h1.ex
  exact ⟨f, fd, fn_d h1 Sc len fun cdv A outer s H E hr => ⟨d, der f cdv A outer s H E hr, vc⟩, h2, h1.kp, h3, kV, doc, pm, an, cdv, ct, e⟩
end
end DL

/-! DLf: the denotations' equations, for rewriting. -/
namespace DL
open PySem PySem.Spec PyProof.Rows L2
section
variable {D : DEnds} {env : Slots} {S : Sto} {Q : WK} {QT : Bool → Sto → Prop} {QA : List DL.W → Sto → Prop} {QE : Slots → Sto → Prop} {t u : DS} {c : DT} {da db dd : DE} {dr : DA} {g : DG} {i j : Nat}
theorem e_seq : dSeq t u D env S = t { D with nx := u D } env S := rfl
theorem e_asg : dAsg da g D env S = da env S fun w S1 => g w env S1 D.nx := rfl
theorem e_nm {w : DL.W} : gNm i w env S QE = QE (env.set i (some w)) S := rfl
theorem e_op {d : DL.W → DL.W → Sto → WK → Prop} : dOp d da db env S Q = da env S fun x S1 => db env S1 fun y S2 => d x y S2 Q := rfl
theorem e_un {d : DL.W → Sto → WK → Prop} : dUn d da env S Q = da env S fun x S1 => d x S1 Q := rfl
theorem e_cb {d : List DL.W → Sto → WK → Prop} : dCB d dr env S Q = dr env S fun ws S1 => d ws S1 Q := rfl
theorem e_c {w : DL.W} : dC w env S Q = Q w S := rfl
theorem e_var {w : DL.W} (h : env[i]? = some (some w)) : dVar i env S Q = Q w S := by
  unfold dVar
  rw [h]
  exact propext ⟨fun ⟨w', e, q⟩ => by cases e; exact q, fun q => ⟨w, rfl, q⟩⟩
theorem e_ifs : dIfS c t u D env S = c env S fun b S1 => if b = true then t D env S1 else u D env S1 := rfl
theorem e_tru : dTru da env S QT = da env S fun w S1 => vTru w S1 fun b => QT b S1 := rfl
theorem e_B : dB da env S QT = da env S fun w S1 => ∃ c, w = .bl c ∧ QT c S1 := rfl
theorem e_drop : dDrop da D env S = da env S fun _ S1 => D.nx env S1 := rfl
theorem e_bm {T : String} {d : DL.W → List DL.W → Sto → WK → Prop} : dBM T d da dr env S Q = da env S fun x S1 => vTy T x S1 ∧ dr env S1 fun ws S2 => d x ws S2 Q := rfl
theorem e_bm0 {T : String} {d : DL.W → List DL.W → Sto → WK → Prop} : dBM0 T d da env S Q = da env S fun x S1 => vTy T x S1 ∧ d x [] S1 Q := rfl
theorem e_ret : dRet da D env S = da env S D.rt := rfl
theorem e_retN : dRetN D env S = D.rt .non S := rfl
theorem e_next : dNext D env S = D.nx env S := rfl
theorem e_break : dBreak D env S = D.bk env S := rfl
theorem e_cont : dCont D env S = D.ct env S := rfl
theorem e_nil : aNil env S QA = QA [] S := rfl
theorem e_cons : aCons da dr env S QA = da env S fun w S1 => dr env S1 fun ws S2 => QA (w :: ws) S2 := rfl
theorem e_tup : dTup dr env S Q = dr env S fun ws S1 => ws.length ≤ sizeLine ∧ Q (.tup ws) S1 := rfl
theorem e_lst : dLst dr env S Q = dr env S fun ws S1 => ws.length ≤ sizeLine ∧ Q (.ref S1.length) (S1 ++ [.lst ws]) := rfl
theorem e_sl {d : DL.W → Option Int → Option Int → Sto → WK → Prop} {dl dh : DO} : dSl d da dl dh env S Q = da env S fun x S1 => dl env S1 fun l S2 => dh env S2 fun u S3 => d x l u S3 Q := rfl
theorem e_onone {q : Option Int → Sto → Prop} : oNone env S q = q none S := rfl
theorem e_osome {q : Option Int → Sto → Prop} : oSome da env S q = da env S fun w S1 => ∃ i, w = .int i ∧ q (some i) S1 := rfl
theorem e_gsub {d : DL.W → DL.W → DL.W → Sto → (Sto → Prop) → Prop} {w : DL.W} : gSb da db d w env S QE = da env S fun o S1 => db env S1 fun i S2 => d o i w S2 fun S3 => QE env S3 := rfl
theorem e_call {F : DSpec} : dCall F dr env S Q = dr env S fun ws S1 => F ws S1 Q := rfl
theorem e_callk {F : DSpec} {perm : List Nat} {n m : Nat} {dk : DA} : dCallK F perm n m dr dk env S Q = dr env S fun us S1 => dk env S1 fun ws S2 => us.length = n ∧ ws.length = m ∧ F (permL perm (us ++ ws)) S2 Q := rfl
theorem e_and {b : DT} : dAndT c b env S QT = c env S fun k S1 => if k = true then b env S1 QT else QT false S1 := rfl
theorem e_or {b : DT} : dOrT c b env S QT = c env S fun k S1 => if k = true then QT true S1 else b env S1 QT := rfl
theorem e_not : dNotT c env S QT = c env S fun k S1 => QT (!k) S1 := rfl
theorem e_andv : dAndV da db env S Q = da env S fun w S1 => ∃ c, w = .bl c ∧ if c = true then db env S1 Q else Q (.bl false) S1 := rfl
theorem e_orv : dOrV da db env S Q = da env S fun w S1 => ∃ c, w = .bl c ∧ if c = true then Q (.bl true) S1 else db env S1 Q := rfl
theorem e_notv : dNotV da env S Q = da env S fun w S1 => ∃ c, w = .bl c ∧ Q (.bl (!c)) S1 := rfl
theorem e_if : dIf c da db env S Q = c env S fun k S1 => if k = true then da env S1 Q else db env S1 Q := rfl
theorem e_par {i j : Nat} : dPar i j dr D env S = dr env S fun ws S1 => ∃ v w, ws = [v, w] ∧ D.nx ((env.set i (some v)).set j (some w)) S1 := rfl
theorem e_for {di : DI} : dFor di g t D env S = di env S fun its still S1 => forW g t still its D env S1 := rfl
theorem e_comp {di : DI} {tt : DT} {vs : List Nat} : dComp di g tt dd vs env S Q = di env S fun its still S1 => compW g tt dd vs still env Q its [] S1 := rfl
theorem e_iseq {q : List DL.W → (Sto → Prop) → Sto → Prop} : iSeq da env S q = da env S fun w S1 => vSeqI w S1 q := rfl
theorem e_rng1 {q : List DL.W → (Sto → Prop) → Sto → Prop} : DL.iRng1 dr env S q = dr env S fun ws S1 => ∃ j : Int, ws = [.int j] ∧ -(2 ^ 62) ≤ j ∧ j < 2 ^ 62 ∧ q (rngW 0 j.toNat) (fun _ => True) S1 := rfl
theorem e_yes : dYes env S QT = QT true S := rfl
theorem e_gtp {n : Nat} {gs : DGs} {ws : List DL.W} : gTp n gs (.tup ws) env S QE = (ws.length = n ∧ gs ws env S QE) :=
  propext ⟨fun ⟨ws', e, h, q⟩ => by cases e; exact ⟨h, q⟩, fun ⟨h, q⟩ => ⟨ws, rfl, h, q⟩⟩
theorem e_gc {gs : DGs} {w : DL.W} {ws : List DL.W} : gC g gs (w :: ws) env S QE = g w env S fun env1 S1 => gs ws env1 S1 QE :=
  propext ⟨fun ⟨w', ws', e, q⟩ => by cases e; exact q, fun q => ⟨w, ws, rfl, q⟩⟩
theorem e_gn0 : gN0 [] env S QE = QE env S := propext ⟨fun ⟨_, q⟩ => q, fun q => ⟨rfl, q⟩⟩
/-! values -/
theorem e_addI {i j : Int} : vAdd (.int i) (.int j) S Q = Q (.int (i + j)) S := rfl
theorem e_addS {a b : Str} : vAdd (.str a) (.str b) S Q = (a.length + b.length ≤ sizeLine ∧ Q (.str (a ++ b)) S) := rfl
theorem e_addT {a b : List DL.W} : vAdd (.tup a) (.tup b) S Q = (a.length + b.length ≤ sizeLine ∧ Q (.tup (a ++ b)) S) := rfl
theorem e_addL {a b : List DL.W} (h : S[i]? = some (.lst a)) (h' : S[j]? = some (.lst b)) : vAdd (.ref i) (.ref j) S Q = (a.length + b.length ≤ sizeLine ∧ Q (.ref S.length) (S ++ [.lst (a ++ b)])) := by
  show (∃ a b, S[i]? = some (.lst a) ∧ S[j]? = some (.lst b) ∧ a.length + b.length ≤ sizeLine ∧ Q (.ref S.length) (S ++ [.lst (a ++ b)])) = _
  rw [h, h']
  exact propext ⟨fun ⟨a', b', e1, e2, q⟩ => by cases e1; cases e2; exact q, fun q => ⟨a, b, rfl, rfl, q⟩⟩
theorem e_i20 {f : Int → Int → DL.W} {a b : Int} : vI20 f (.int a) (.int b) S Q = Q (f a b) S := rfl
theorem e_i2 {C : Int → Int → Prop} {f : Int → Int → DL.W} {a b : Int} : vI2 C f (.int a) (.int b) S Q = (C a b ∧ Q (f a b) S) := rfl
theorem e_neg {a : Int} : vNeg (.int a) S Q = Q (.int (-a)) S := rfl
theorem e_cmpI {f : Int → Int → Bool} {f' : Str → Str → Bool} {a b : Int} : vCmp f f' (.int a) (.int b) S Q = Q (.bl (f a b)) S := rfl
theorem e_cmpS {f : Int → Int → Bool} {f' : Str → Str → Bool} {a b : Str} : vCmp f f' (.str a) (.str b) S Q = Q (.bl (f' a b)) S := rfl
theorem e_eqI {n : Bool} {a b : Int} : vEqG n (.int a) (.int b) S Q = Q (.bl (n ^^ decide (a = b))) S := rfl
theorem e_eqS {n : Bool} {a b : Str} : vEqG n (.str a) (.str b) S Q = Q (.bl (n ^^ decide (a = b))) S := rfl
theorem e_eqB {n : Bool} {a b : Bool} : vEqG n (.bl a) (.bl b) S Q = Q (.bl (n ^^ decide (a = b))) S := rfl
theorem e_ixT {ws : List DL.W} {k : Int} {w : DL.W} (h : atI ws k = some w) : vIx (.tup ws) (.int k) S Q = Q w S := by
  show (∃ w, atI ws k = some w ∧ Q w S) = _
  rw [h]
  exact propext ⟨fun ⟨w', e, q⟩ => by cases e; exact q, fun q => ⟨w, rfl, q⟩⟩
theorem e_ixLit {ws : List DL.W} {k : Int} {w : DL.W} (h : atI ws k = some w) : vIx (.lit ws) (.int k) S Q = Q w S := by
  show (∃ w, atI ws k = some w ∧ Q w S) = _
  rw [h]
  exact propext ⟨fun ⟨w', e, q⟩ => by cases e; exact q, fun q => ⟨w, rfl, q⟩⟩
theorem e_ixL {ws : List DL.W} {k : Int} {w : DL.W} (h0 : S[i]? = some (.lst ws)) (h : atI ws k = some w) : vIx (.ref i) (.int k) S Q = Q w S := by
  show (∃ ws w, S[i]? = some (.lst ws) ∧ atI ws k = some w ∧ Q w S) = _
  rw [h0]
  exact propext ⟨fun ⟨ws', w', e, e2, q⟩ => by cases e; rw [h] at e2; cases e2; exact q, fun q => ⟨ws, w, rfl, h, q⟩⟩
theorem e_ixS {z : Str} {k : Int} {c : Nat} (h : atI z.cps.toList k = some c) : vIx (.str z) (.int k) S Q = (z.length ≤ sizeLine ∧ Q (.str ⟨#[c]⟩) S) := by
  show (∃ c, z.length ≤ sizeLine ∧ atI z.cps.toList k = some c ∧ Q (.str ⟨#[c]⟩) S) = _
  rw [h]
  exact propext ⟨fun ⟨c', e, e2, q⟩ => by cases e2; exact ⟨e, q⟩, fun q => ⟨c, q.1, rfl, q.2⟩⟩
theorem e_set {ws : List DL.W} {k : Int} {m : Nat} {w : DL.W} {q : Sto → Prop} (h0 : S[i]? = some (.lst ws)) (h : ixN ws.length k = some m) : vSet (.ref i) (.int k) w S q = q (S.set i (.lst (ws.set m w))) := by
  show (∃ ws j, S[i]? = some (.lst ws) ∧ ixN ws.length k = some j ∧ q (S.set i (.lst (ws.set j w)))) = _
  rw [h0]
  exact propext ⟨fun ⟨ws', j', e, e2, q⟩ => by cases e; rw [h] at e2; cases e2; exact q, fun q => ⟨ws, m, rfl, h, q⟩⟩
theorem e_slT {ws : List DL.W} {lo hi : Option Int} : vSl (.tup ws) lo hi S Q = Q (.tup (cutW ws lo hi)) S := rfl
theorem e_slLit {ws : List DL.W} {lo hi : Option Int} : vSl (.lit ws) lo hi S Q = Q (.ref S.length) (S ++ [.lst (cutW ws lo hi)]) := rfl
theorem e_slS {z : Str} {lo hi : Option Int} : vSl (.str z) lo hi S Q = (z.length ≤ sizeLine ∧ Q (.str (cutS z lo hi)) S) := rfl
theorem e_slL {ws : List DL.W} {lo hi : Option Int} (h : S[i]? = some (.lst ws)) : vSl (.ref i) lo hi S Q = Q (.ref S.length) (S ++ [.lst (cutW ws lo hi)]) := by
  show (∃ ws, S[i]? = some (.lst ws) ∧ Q (.ref S.length) (S ++ [.lst (cutW ws lo hi)])) = _
  rw [h]
  exact propext ⟨fun ⟨ws', e, q⟩ => by cases e; exact q, fun q => ⟨ws, rfl, q⟩⟩
theorem e_lenS {z : Str} : vLen [.str z] S Q = (z.length ≤ sizeLine ∧ Q (.int z.length) S) := rfl
theorem ex_seq {p : List DL.W → Prop} {w : DL.W} {ws : List DL.W} (h : seqOf S w = some ws) : (∃ us, seqOf S w = some us ∧ p us) = p ws := by
  rw [h]
  exact propext ⟨fun ⟨ws', e, q⟩ => by cases e; exact q, fun q => ⟨ws, rfl, q⟩⟩
theorem e_lenT {ws : List DL.W} : vLen [.tup ws] S Q = Q (.int ws.length) S := ex_seq (p := fun us => Q (.int us.length) S) rfl
theorem e_lenLit {ws : List DL.W} : vLen [.lit ws] S Q = Q (.int ws.length) S := ex_seq (p := fun us => Q (.int us.length) S) rfl
theorem e_lenL {ws : List DL.W} (h : S[i]? = some (.lst ws)) : vLen [.ref i] S Q = Q (.int ws.length) S := ex_seq (p := fun us => Q (.int us.length) S) (seqOf_ref h)
theorem e_i1 {f : Int → DL.W} {a : Int} : vI1 f [.int a] S Q = Q (f a) S := rfl
theorem e_intI {a : Int} : vIntOf [.int a] S Q = Q (.int a) S := rfl
theorem e_intB {a : Bool} : vIntOf [.bl a] S Q = Q (.int (if a then 1 else 0)) S := rfl
theorem e_strI {a : Int} : vStrOf [.int a] S Q = (a.natAbs.log2 < 1920 ∧ Q (.str (toString a)) S) := rfl
theorem e_strS {a : Str} : vStrOf [.str a] S Q = Q (.str a) S := rfl
theorem e_listT {ws : List DL.W} : vList [.tup ws] S Q = Q (.ref S.length) (S ++ [.lst ws]) := ex_seq (p := fun us : List DL.W => Q (DL.W.ref S.length) (S ++ [O.lst us])) rfl
theorem e_listLit {ws : List DL.W} : vList [.lit ws] S Q = Q (.ref S.length) (S ++ [.lst ws]) := ex_seq (p := fun us : List DL.W => Q (DL.W.ref S.length) (S ++ [O.lst us])) rfl
theorem e_listL {ws : List DL.W} (h : S[i]? = some (.lst ws)) : vList [.ref i] S Q = Q (.ref S.length) (S ++ [.lst ws]) := ex_seq (p := fun us : List DL.W => Q (DL.W.ref S.length) (S ++ [O.lst us])) (seqOf_ref h)
theorem e_tupleT {ws : List DL.W} : vTuple [.tup ws] S Q = Q (.tup ws) S := ex_seq (p := fun us => Q (.tup us) S) rfl
theorem e_tupleL {ws : List DL.W} (h : S[i]? = some (.lst ws)) : vTuple [.ref i] S Q = Q (.tup ws) S := ex_seq (p := fun us => Q (.tup us) S) (seqOf_ref h)
theorem e_append {w : DL.W} {ws : List DL.W} (h : S[i]? = some (.lst ws)) : vAppend (.ref i) [w] S Q = (ws.length < sizeLine ∧ Q .non (S.set i (.lst (ws ++ [w])))) := by
  show (∃ zs, S[i]? = some (.lst zs) ∧ zs.length < sizeLine ∧ Q .non (S.set i (.lst (zs ++ [w])))) = _
  rw [h]
  exact propext ⟨fun ⟨ws', e, q⟩ => by cases e; exact q, fun q => ⟨ws, rfl, q⟩⟩
theorem e_pop0 {w : DL.W} {ws : List DL.W} (h : S[i]? = some (.lst (ws ++ [w]))) : vPop0 (.ref i) [] S Q = Q w (S.set i (.lst ws)) := by
  show (∃ zs y, S[i]? = some (.lst zs) ∧ zs[zs.length - 1]? = some y ∧ Q y (S.set i (.lst zs.dropLast))) = _
  rw [h]
  have e1 : (ws ++ [w])[(ws ++ [w]).length - 1]? = some w := by simp
  exact propext ⟨fun ⟨zs, y, e, e2, q⟩ => by cases e; rw [e1] at e2; cases e2; rw [List.dropLast_concat] at q; exact q, fun q => ⟨ws ++ [w], w, rfl, e1, by rw [List.dropLast_concat]; exact q⟩⟩
theorem e_tyL {ws : List DL.W} (h : S[i]? = some (.lst ws)) : vTy "list" (.ref i) S = True := by
  refine eq_true ?_
  exact .inl ⟨rfl, ws, h⟩
theorem e_tyS {z : Str} : vTy "str" (.str z) S = True := eq_true rfl
theorem e_truL {ws : List DL.W} {q : Bool → Prop} (h : S[i]? = some (.lst ws)) : vTru (.ref i) S q = q (!ws.isEmpty) := by
  show ((∃ ws, S[i]? = some (.lst ws) ∧ q (!ws.isEmpty)) ∨ ∃ kvs, S[i]? = some (.dk kvs) ∧ q (!kvs.isEmpty)) = _
  rw [h]
  exact propext ⟨fun o => o.elim (fun ⟨ws', e, q⟩ => by cases e; exact q) (fun ⟨_, e, _⟩ => by cases e), fun q => .inl ⟨ws, rfl, q⟩⟩
theorem e_truT {ws : List DL.W} {q : Bool → Prop} : vTru (.tup ws) S q = q (!ws.isEmpty) := rfl
theorem e_truB {b : Bool} {q : Bool → Prop} : vTru (.bl b) S q = q b := rfl
theorem e_truI {a : Int} {q : Bool → Prop} : vTru (.int a) S q = q (a != 0) := rfl
theorem e_truS {z : Str} {q : Bool → Prop} : vTru (.str z) S q = (z.length ≤ sizeLine ∧ q ((z.length : Int) != 0)) := rfl
theorem e_truN {q : Bool → Prop} : vTru .non S q = q false := rfl
theorem e_seqT {ws : List DL.W} {q : List DL.W → (Sto → Prop) → Sto → Prop} : vSeqI (.tup ws) S q = q ws (fun _ => True) S := rfl
theorem e_seqLit {ws : List DL.W} {q : List DL.W → (Sto → Prop) → Sto → Prop} : vSeqI (.lit ws) S q = q ws (fun _ => True) S := rfl
theorem e_seqL {ws : List DL.W} {q : List DL.W → (Sto → Prop) → Sto → Prop} (h : S[i]? = some (.lst ws)) : vSeqI (.ref i) S q = q ws (fun S' => S'[i]? = some (.lst ws)) S := by
  show (∃ ws, S[i]? = some (.lst ws) ∧ q ws (fun S' => S'[i]? = some (.lst ws)) S) = _
  rw [h]
  exact propext ⟨fun ⟨ws', e, q⟩ => by cases e; exact q, fun q => ⟨ws, rfl, q⟩⟩
theorem e_in {n : Bool} {x : DL.W} {ws : List DL.W} (h : S[i]? = some (.lst ws)) : vIn n x (.ref i) S Q = (flW x = true ∧ ws.all flW = true ∧ Q (.bl (n ^^ inW x ws)) S) := ex_seq (p := fun us => flW x = true ∧ us.all flW = true ∧ Q (.bl (n ^^ inW x us)) S) (seqOf_ref h)
theorem e_inT {n : Bool} {x : DL.W} {ws : List DL.W} : vIn n x (.tup ws) S Q = (flW x = true ∧ ws.all flW = true ∧ Q (.bl (n ^^ inW x ws)) S) := ex_seq (p := fun us => flW x = true ∧ us.all flW = true ∧ Q (.bl (n ^^ inW x us)) S) rfl
theorem e_isi {w : DL.W} {n t : String} {b : Bool} (h : tyW S w = some t) (h' : kitB t n = some b) : vIsi [w, .raw (.ty n)] S Q = Q (.bl b) S := by
  show (∃ t b, tyW S w = some t ∧ kitB t n = some b ∧ Q (.bl b) S) = _
  rw [h]
  exact propext ⟨fun ⟨t', b', e, e2, q⟩ => by cases e; rw [h'] at e2; cases e2; exact q, fun q => ⟨t, b, rfl, h', q⟩⟩
end
/-! places -/
theorem atI_0 {α : Type} {x : α} {xs : List α} : atI (x :: xs) 0 = some x := atI_nat (j := 0) rfl
theorem atI_1 {α : Type} {x y : α} {xs : List α} : atI (x :: y :: xs) 1 = some y := atI_nat (j := 1) rfl
theorem atI_2 {α : Type} {x y z : α} {xs : List α} : atI (x :: y :: z :: xs) 2 = some z := atI_nat (j := 2) rfl
theorem atI_3 {α : Type} {x y z u : α} {xs : List α} : atI (x :: y :: z :: u :: xs) 3 = some u := atI_nat (j := 3) rfl
theorem ixN_nat {n j : Nat} (h : j < n) : ixN n (j : Int) = some j := by
  unfold ixN
  rw [if_pos (Int.natCast_nonneg j), if_pos (by omega)]
  rfl
theorem ixN_last {n : Nat} : ixN (n + 1) (-1) = some n := by
  unfold ixN
  rw [if_neg (by decide), if_pos (by omega)]
  congr 1
  omega
theorem ixN_0 {n : Nat} : ixN (n + 1) 0 = some 0 := ixN_nat (j := 0) (by omega)
theorem ixN_1 {n : Nat} : ixN (n + 1 + 1) 1 = some 1 := ixN_nat (j := 1) (by omega)
theorem ixN_11 : ixN (1 + 1) 1 = some 1 := ixN_nat (j := 1) (by omega)
theorem atI_end {α : Type} {xs : List α} {v : α} : atI (xs ++ [v]) (-1) = some v := atI_last xs v
theorem set_end {α : Type} {xs : List α} {v w : α} {n : Nat} (h : n = xs.length) : (xs ++ [v]).set n w = xs ++ [w] := by
  rw [h, List.set_append_right _ _ (Nat.le_refl _), Nat.sub_self]
  rfl
theorem closed_iff {S : Sto} : Closed S ↔ ∀ o ∈ S, o.bnd S.length = true := by
  constructor
  · intro h o ho
    obtain ⟨i, hi, e⟩ := List.mem_iff_getElem.mp ho
    exact h i o (by rw [List.getElem?_eq_getElem hi, e])
  · intro h i o ho
    exact h o (List.mem_of_getElem? ho)
theorem bndL_all (n : Nat) : ∀ ws : List DL.W, W.bndL n ws = ws.all (W.bnd n)
  | [] => rfl
  | w :: ws => by
    show (W.bnd n w && W.bndL n ws) = _
    rw [bndL_all n ws]
    rfl
theorem bndL_ints (n : Nat) (is : List Int) : W.bndL n (is.map DL.W.int) = true := by
  rw [bndL_all, List.all_map]
  exact List.all_eq_true.mpr fun _ _ => rfl
theorem bndL_strs (n : Nat) (is : List Str) : W.bndL n (is.map DL.W.str) = true := by
  rw [bndL_all, List.all_map]
  exact List.all_eq_true.mpr fun _ _ => rfl
mutual
theorem pure_bnd (n : Nat) : ∀ w : DL.W, w.pure = true → w.bnd n = true
  | .non, _ => rfl
  | .bl b, _ => rfl
  | .int i, _ => rfl
  | .str x, _ => rfl
  | .raw v, _ => rfl
  | .ref i, h => Bool.noConfusion (show false = true from h)
  | .tup ws, h => by
    show W.bndL n ws = true
    exact pureL_bnd n ws h
  | .lit ws, h => by
    show W.bndL n ws = true
    exact pureL_bnd n ws h
theorem pureL_bnd (n : Nat) : ∀ ws : List DL.W, W.pureL ws = true → W.bndL n ws = true
  | [], _ => rfl
  | w :: ws, h => by
    have b : (w.pure && W.pureL ws) = true := h
    rw [Bool.and_eq_true] at b
    show (W.bnd n w && W.bndL n ws) = true
    rw [pure_bnd n w b.1, pureL_bnd n ws b.2]
    rfl
end
theorem pureL_all : ∀ ws : List DL.W, W.pureL ws = ws.all W.pure
  | [] => rfl
  | w :: ws => by
    show (w.pure && W.pureL ws) = _
    rw [pureL_all ws]
    rfl
theorem pureL_of {ws : List DL.W} (h : ∀ w ∈ ws, w.pure = true) : W.pureL ws = true := by
  rw [pureL_all]
  exact List.all_eq_true.mpr h
theorem pureL_strs (is : List Str) : W.pureL (is.map DL.W.str) = true := pureL_of fun w h => by
  obtain ⟨a, _, rfl⟩ := List.mem_map.mp h
  rfl
theorem pureL_ints (is : List Int) : W.pureL (is.map DL.W.int) = true := pureL_of fun w h => by
  obtain ⟨a, _, rfl⟩ := List.mem_map.mp h
  rfl
theorem get_app {α : Type} {R L : List α} {k : Nat} : (R ++ L)[R.length + k]? = L[k]? := by
  rw [List.getElem?_append_right (Nat.le_add_right _ _), Nat.add_sub_cancel_left]
theorem get_app0 {α : Type} {R L : List α} : (R ++ L)[R.length]? = L[0]? := get_app (k := 0)
theorem set_app {α : Type} {R L : List α} {k : Nat} {x : α} : (R ++ L).set (R.length + k) x = R ++ L.set k x := by
  rw [List.set_append_right _ _ (Nat.le_add_right _ _), Nat.add_sub_cancel_left]
theorem set_app0 {α : Type} {R L : List α} {x : α} : (R ++ L).set R.length x = R ++ L.set 0 x := set_app (k := 0)
/-- a loop over items, by what holds ahead of each turn -/
theorem forW_inv {g : DG} {b : DS} {still : Sto → Prop} {its : List DL.W} {D : DEnds} {env : Slots} {S : Sto} (I : Nat → Slots → Sto → Prop) (h0 : I 0 env S)
    (hs : ∀ (i : Nat) (x : DL.W) (env : Slots) (S : Sto), its[i]? = some x → I i env S → ∀ N : Slots → Sto → Prop, (∀ e s, I (i + 1) e s → N e s) → still S ∧ g x env S fun env2 S2 => b { D with nx := N, ct := N, bk := D.nx } env2 S2)
    (he : ∀ env S, I its.length env S → still S ∧ D.nx env S) : forW g b still its D env S := by
  have go : ∀ (n i : Nat) (env : Slots) (S : Sto), i + n = its.length → I i env S → forW g b still (its.drop i) D env S := by
    intro n
    induction n with
    | zero =>
      intro i env S hi h
      have hl : its.length ≤ i := by omega
      rw [List.drop_of_length_le hl]
      have e : i = its.length := by omega
      subst e
      exact he env S h
    | succ n ih =>
      intro i env S hi h
      have hl : i < its.length := by omega
      rw [List.drop_eq_getElem_cons hl]
      exact hs i its[i] env S (List.getElem?_eq_getElem hl) h _ fun e s q => ih (i + 1) e s (by omega) q
  exact go its.length 0 env S (by omega) h0
/-- a comprehension, by what holds ahead of each turn of what is made so far and the store -/
theorem compW_inv {g : DG} {tt : DT} {te : DE} {vs : List Nat} {still : Sto → Prop} {env : Slots} {Q : WK} {its : List DL.W} {S : Sto} (I : Nat → List DL.W → Sto → Prop) (h0 : I 0 [] S)
    (hs : ∀ (i : Nat) (x : DL.W) (acc : List DL.W) (S : Sto), its[i]? = some x → I i acc S → ∀ N : List DL.W → Sto → Prop, (∀ a s, I (i + 1) a s → N a s) → still S ∧ g x (wipeW env vs) S fun env2 S2 => tt env2 S2 fun b S3 => if b = true then te env2 S3 fun y S4 => acc.length < sizeLine ∧ N (acc ++ [y]) S4 else N acc S3)
    (he : ∀ acc S, I its.length acc S → still S ∧ Q (.ref S.length) (S ++ [.lst acc])) : compW g tt te vs still env Q its [] S := by
  have go : ∀ (n i : Nat) (acc : List DL.W) (S : Sto), i + n = its.length → I i acc S → compW g tt te vs still env Q (its.drop i) acc S := by
    intro n
    induction n with
    | zero =>
      intro i acc S hi h
      have hl : its.length ≤ i := by omega
      rw [List.drop_of_length_le hl]
      have e : i = its.length := by omega
      subst e
      exact he acc S h
    | succ n ih =>
      intro i acc S hi h
      have hl : i < its.length := by omega
      rw [List.drop_eq_getElem_cons hl]
      exact hs i its[i] acc S (List.getElem?_eq_getElem hl) h (compW g tt te vs still env Q (its.drop (i + 1))) fun a s q => ih (i + 1) a s (by omega) q
  exact go its.length 0 [] S (by omega) h0
/-- a comprehension whose element leaves the store as it is -/
theorem compW_map {α : Type} {enc r : α → DL.W} {ts : List α} {g : DG} {tt : DT} {te : DE} {vs : List Nat} {still : Sto → Prop} {env : Slots} {Q : WK} {S : Sto} (st : still S) (hl : ts.length ≤ sizeLine)
    (h : ∀ t ∈ ts, ∀ (N : List DL.W → Sto → Prop) (acc : List DL.W), acc.length < sizeLine → N (acc ++ [r t]) S → g (enc t) (wipeW env vs) S fun env2 S2 => tt env2 S2 fun b S3 => if b = true then te env2 S3 fun y S4 => acc.length < sizeLine ∧ N (acc ++ [y]) S4 else N acc S3)
    (q : Q (.ref S.length) (S ++ [.lst (ts.map r)])) : compW g tt te vs still env Q (ts.map enc) [] S := by
  refine compW_inv (fun i acc S' => S' = S ∧ acc = (ts.take i).map r) ⟨rfl, rfl⟩ ?_ ?_
  · rintro i x acc S' hx ⟨rfl, rfl⟩ N hN
    rw [List.getElem?_map] at hx
    cases ht : ts[i]? with
    | none =>
      rw [ht] at hx
      cases hx
    | some t =>
      rw [ht] at hx
      have e : enc t = x := Option.some.inj hx
      subst e
      have hi := (List.getElem?_eq_some_iff.mp ht).1
      refine ⟨st, h t (List.mem_of_getElem? ht) N _ (by rw [List.length_map, List.length_take]; omega) (hN _ _ ⟨rfl, ?_⟩)⟩
      rw [List.take_add_one, ht, List.map_append]
      rfl
  · rintro acc S' ⟨rfl, rfl⟩
    rw [List.length_map, List.take_length]
    exact ⟨st, q⟩
mutual
theorem ren_pure (f : List Nat) : ∀ w : DL.W, w.pure = true → w.ren f = w
  | .non, _ => rfl
  | .bl b, _ => rfl
  | .int i, _ => rfl
  | .str x, _ => rfl
  | .raw v, _ => rfl
  | .ref i, h => Bool.noConfusion (show false = true from h)
  | .tup ws, h => by
    show W.tup (W.renL f ws) = _
    rw [renL_pure f ws h]
  | .lit ws, h => by
    show W.lit (W.renL f ws) = _
    rw [renL_pure f ws h]
theorem renL_pure (f : List Nat) : ∀ ws : List DL.W, W.pureL ws = true → W.renL f ws = ws
  | [], _ => rfl
  | w :: ws, h => by
    have b : (w.pure && W.pureL ws) = true := h
    rw [Bool.and_eq_true] at b
    show w.ren f :: W.renL f ws = _
    rw [ren_pure f w b.1, renL_pure f ws b.2]
end
mutual
theorem ren_ext {f : List Nat} {n : Nat} (hf : ∀ i, i < n → f[i]? = some i) : ∀ w : DL.W, w.bnd n = true → w.ren f = w
  | .non, _ => rfl
  | .bl b, _ => rfl
  | .int i, _ => rfl
  | .str x, _ => rfl
  | .raw v, _ => rfl
  | .ref i, h => by
    have hi : i < n := of_decide_eq_true h
    show W.ref (f.getD i 0) = _
    rw [List.getD_eq_getElem?_getD, hf i hi]
    rfl
  | .tup ws, h => by
    show W.tup (W.renL f ws) = _
    rw [renL_ext hf ws h]
  | .lit ws, h => by
    show W.lit (W.renL f ws) = _
    rw [renL_ext hf ws h]
theorem renL_ext {f : List Nat} {n : Nat} (hf : ∀ i, i < n → f[i]? = some i) : ∀ ws : List DL.W, W.bndL n ws = true → W.renL f ws = ws
  | [], _ => rfl
  | w :: ws, h => by
    have b : (W.bnd n w && W.bndL n ws) = true := h
    rw [Bool.and_eq_true] at b
    show w.ren f :: W.renL f ws = _
    rw [ren_ext hf w b.1, renL_ext hf ws b.2]
end
theorem O_ren_ext {f : List Nat} {n : Nat} (hf : ∀ i, i < n → f[i]? = some i) : ∀ o : O, o.bnd n = true → o.ren f = o
  | .lst ws, b => by
    show O.lst _ = _
    rw [renL_ext hf ws b]
  | .dk kvs, b => by
    have go : ∀ kvs : List (Key × DL.W), W.bndL n (kvs.map (·.2)) = true → (kvs.map fun kv => (kv.1, kv.2.ren f)) = kvs := by
      intro kvs
      induction kvs with
      | nil => intro _; rfl
      | cons kv r ih =>
        intro b
        have b' : (W.bnd n kv.2 && W.bndL n (r.map (·.2))) = true := b
        rw [Bool.and_eq_true] at b'
        rw [List.map_cons, ih b'.2, DL.ren_ext hf _ b'.1]
    show O.dk _ = _
    rw [go kvs b]
  | .tk ws, b => by
    show O.tk _ = _
    rw [renL_ext hf ws b]
  | .ft ws, b => by
    show O.ft _ = _
    rw [renL_ext hf ws b]
  | .dt kvs, b => by
    have go : ∀ kvs : List (List Key × DL.W), W.bndL n (kvs.map (·.2)) = true → (kvs.map fun kv => (kv.1, kv.2.ren f)) = kvs := by
      intro kvs
      induction kvs with
      | nil => intro _; rfl
      | cons kv r ih =>
        intro b
        have b' : (W.bnd n kv.2 && W.bndL n (r.map (·.2))) = true := b
        rw [Bool.and_eq_true] at b'
        rw [List.map_cons, ih b'.2, DL.ren_ext hf _ b'.1]
    show O.dt _ = _
    rw [go kvs b]
mutual
theorem bnd_mono {n m : Nat} (h : n ≤ m) : ∀ w : DL.W, w.bnd n = true → w.bnd m = true
  | .non, _ => rfl
  | .bl b, _ => rfl
  | .int i, _ => rfl
  | .str x, _ => rfl
  | .raw v, _ => rfl
  | .ref i, b => decide_eq_true (Nat.lt_of_lt_of_le (of_decide_eq_true b) h)
  | .tup ws, b => by
    show W.bndL m ws = true
    exact bndL_mono h ws b
  | .lit ws, b => by
    show W.bndL m ws = true
    exact bndL_mono h ws b
theorem bndL_mono {n m : Nat} (h : n ≤ m) : ∀ ws : List DL.W, W.bndL n ws = true → W.bndL m ws = true
  | [], _ => rfl
  | w :: ws, b => by
    have b' : (W.bnd n w && W.bndL n ws) = true := b
    rw [Bool.and_eq_true] at b'
    show (W.bnd m w && W.bndL m ws) = true
    rw [bnd_mono h w b'.1, bndL_mono h ws b'.2]
    rfl
end
theorem O_bnd_mono {n m : Nat} (h : n ≤ m) : ∀ o : O, o.bnd n = true → o.bnd m = true
  | .lst ws, b => bndL_mono h ws b
  | .dk kvs, b => bndL_mono h _ b
  | .tk ws, b => bndL_mono h ws b
  | .ft ws, b => bndL_mono h ws b
  | .dt kvs, b => bndL_mono h _ b
/-- a new list of pure items is handed back, all else that is new is forgotten -/
theorem Ends0.last {n : Nat} {Q : WK} {S T : Sto} {k : Nat} {ws : List DL.W} (hn : n ≤ S.length) (cl : Closed S) (hk : T[k]? = some (.lst ws)) (hp : W.pureL ws = true) (q : Q (.ref S.length) (S ++ [.lst ws])) : Ends0 n Q (.ref (S.length + k)) (S ++ T) := by
  have hf : ∀ i, i < S.length → (List.range S.length ++ [S.length + k])[i]? = some i := fun i hi => by
    rw [List.getElem?_append_left (by rw [List.length_range]; exact hi)]
    exact List.getElem?_range hi
  have hlast : (List.range S.length ++ [S.length + k])[S.length]? = some (S.length + k) := by
    have z := get_app0 (R := List.range S.length) (L := [S.length + k])
    rw [List.length_range] at z
    exact z
  refine ⟨List.range S.length ++ [S.length + k], S ++ [.lst ws], .ref S.length, by simp, fun i hi => hf i (by omega), ?_, fun i o ho => ?_, ?_, ?_, q⟩
  · rw [List.nodup_append]
    refine ⟨List.nodup_range, List.nodup_cons.mpr ⟨List.not_mem_nil, List.nodup_nil⟩, fun a ha b hb => ?_⟩
    rw [List.mem_singleton.mp hb]
    have := List.mem_range.mp ha
    omega
  · have hlen : (List.range S.length ++ [S.length + k]).length = S.length + 1 := by simp
    rw [hlen]
    by_cases hi : i < S.length
    · rw [List.getElem?_append_left hi] at ho
      have b := cl i o ho
      refine ⟨O_bnd_mono (Nat.le_succ _) o b, i, hf i hi, ?_⟩
      rw [List.getElem?_append_left hi, ho, O_ren_ext hf o b]
    · have e : i = S.length := by
        have := (List.getElem?_eq_some_iff.mp ho).1
        rw [List.length_append] at this
        simp at this
        omega
      subst e
      rw [get_app0] at ho
      have e2 : O.lst ws = o := Option.some.inj ho
      subst e2
      refine ⟨pureL_bnd _ ws hp, S.length + k, hlast, ?_⟩
      rw [get_app, hk]
      show some (O.lst ws) = some (O.lst (W.renL _ ws))
      rw [renL_pure _ ws hp]
  · show W.ref _ = W.ref (List.getD _ _ _)
    rw [List.getD_eq_getElem?_getD, hlast]
    rfl
  · refine decide_eq_true ?_
    rw [List.length_append, List.length_range]
    exact Nat.lt_succ_self _
theorem e_join {S : Sto} {Q : WK} {a : Str} {i : Nat} {ys : List Str} (h : S[i]? = some (.lst (ys.map W.str))) (hz : (ys.map (·.length)).sum + ys.length * a.length ≤ 16777216) (q : Q (.str (Txt.join a ys)) S) : vJoin (.str a) [.ref i] S Q :=
  ⟨ys, seqOf_ref h, hz, q⟩
theorem tyW_L {S : Sto} {i : Nat} {ws : List DL.W} (h : S[i]? = some (.lst ws)) : tyW S (.ref i) = some "list" := by simp only [tyW, h]
theorem tyW_S {S : Sto} {z : Str} : tyW S (.str z) = some "str" := rfl
theorem tyW_T {S : Sto} {z : List DL.W} : tyW S (.tup z) = some "tuple" := rfl
theorem tyW_I {S : Sto} {z : Int} : tyW S (.int z) = some "int" := rfl
theorem tyW_B {S : Sto} {z : Bool} : tyW S (.bl z) = some "bool" := rfl
theorem cut_to {ws : List DL.W} {k : Nat} : cutW ws none (some (k : Int)) = ws.take k := by
  unfold cutW
  rw [HT.sIx_none, HT.sIx_nat, List.drop_zero, Nat.sub_zero]
  by_cases h : k ≤ ws.length
  · rw [Nat.min_eq_left h]
  · rw [Nat.min_eq_right (by omega), List.take_length, List.take_of_length_le (by omega)]
theorem cut_from {ws : List DL.W} {k : Nat} : cutW ws (some (k : Int)) none = ws.drop k := by
  unfold cutW
  rw [HT.sIx_none, HT.sIx_nat]
  by_cases h : k ≤ ws.length
  · rw [Nat.min_eq_left h]
    exact List.take_of_length_le (by rw [List.length_drop]; omega)
  · rw [Nat.min_eq_right (by omega), List.drop_length, List.drop_of_length_le (by omega), List.take_nil]
theorem cut_to1 {w : DL.W} {ws : List DL.W} : cutW (w :: ws) none (some 1) = [w] := cut_to (k := 1)
theorem cut_to2 {w u : DL.W} {ws : List DL.W} : cutW (w :: u :: ws) none (some 2) = [w, u] := cut_to (k := 2)
theorem cut_from1 {w : DL.W} {ws : List DL.W} : cutW (w :: ws) (some 1) none = ws := cut_from (k := 1)
theorem wipeW_nil {env : Slots} : wipeW env [] = env := rfl
theorem wipeW_cons {env : Slots} {v : Nat} {vs : List Nat} : wipeW env (v :: vs) = (wipeW env vs).set v none := rfl
theorem kit_ll : kitB "list" "list" = some true := by decide +kernel
theorem kit_ss : kitB "str" "str" = some true := by decide +kernel
theorem kit_tt : kitB "tuple" "tuple" = some true := by decide +kernel
theorem kit_ii : kitB "int" "int" = some true := by decide +kernel
theorem kit_bb : kitB "bool" "bool" = some true := by decide +kernel
theorem kit_bi : kitB "bool" "int" = some true := by decide +kernel
theorem kit_ib : kitB "int" "bool" = some false := by decide +kernel
theorem kit_si : kitB "str" "int" = some false := by decide +kernel
theorem kit_is : kitB "int" "str" = some false := by decide +kernel
end DL

/-! DLg: dicts with int and text keys; in of any kind; max; extend; dict of pairs. -/
namespace DL
open PySem PySem.Spec PyProof.Rows L2
def keyW : W → Option Key
  | .int i => some (.inl i)
  | .str x => some (.inr x)
  | _ => none
def wK : Key → W
  | .inl i => .int i
  | .inr x => .str x
theorem keyW_wK (k : Key) : keyW (wK k) = some k := by cases k <;> rfl
theorem rep_wK {K : Fg} {r : List Addr} {H : Hp} (k : Key) : Rep K r H (kV k) (wK k) := by
  cases k
  · exact .int _
  · exact .str _
theorem rep_key {K : Fg} {r : List Addr} {H : Hp} {v : V} {w : W} {k : Key} (p : Rep K r H v w) (h : keyW w = some k) : v = kV k := by
  cases p <;> first | (cases h; rfl) | cases h
def valW (kvs : List (Key × W)) (k : Key) : Option W := (kvs.find? fun kv => decide (kv.1 = k)).map (·.2)
def putW (kvs : List (Key × W)) (k : Key) (w : W) : List (Key × W) :=
  if (kvs.any fun kv => decide (kv.1 = k)) = true then kvs.map (fun kv => if kv.1 = k then (kv.1, w) else kv) else kvs ++ [(k, w)]
section
variable {K : Fg} {r : List Addr} {H : Hp} {S : Sto}
theorem kv_nil : RelKV K r H [] [] := ⟨rfl, .nil⟩
theorem kv_cons {k : Key} {v : V} {w : W} {vs : List (Key × V)} {ws : List (Key × W)} (h : Rep K r H v w) (l : RelKV K r H vs ws) : RelKV K r H ((k, v) :: vs) ((k, w) :: ws) :=
  ⟨by rw [List.map_cons, List.map_cons, l.1], .cons h l.2⟩
theorem kv_inv {p : Key × W} {vs : List (Key × V)} {ws : List (Key × W)} (l : RelKV K r H vs (p :: ws)) : ∃ v vs', vs = (p.1, v) :: vs' ∧ Rep K r H v p.2 ∧ RelKV K r H vs' ws := by
  obtain ⟨h1, h2⟩ := l
  cases vs with
  | nil => simp at h1
  | cons q vs =>
    rw [List.map_cons, List.map_cons] at h1
    rw [List.map_cons, List.map_cons] at h2
    cases h2 with
    | cons a b =>
      obtain ⟨k, v⟩ := q
      have e1 := (List.cons.inj h1).1
      have e1' : k = p.1 := e1
      exact ⟨v, vs, by rw [← e1'], a, (List.cons.inj h1).2, b⟩
theorem kv_empty {vs : List (Key × V)} (l : RelKV K r H vs []) : vs = [] := by
  have h := l.1
  cases vs with
  | nil => rfl
  | cons a b => simp at h
theorem kv_len {vs : List (Key × V)} {ws : List (Key × W)} (l : RelKV K r H vs ws) : vs.length = ws.length := by
  have h := congrArg List.length l.1
  rwa [List.length_map, List.length_map] at h
theorem kv_val {k : Key} : ∀ {ws : List (Key × W)} {vs : List (Key × V)}, RelKV K r H vs ws → (∀ w, valW ws k = some w → ∃ v, valV vs k = some v ∧ Rep K r H v w) ∧ (valW ws k = none → valV vs k = none)
  | [], vs, l => by
    cases kv_empty l
    exact ⟨fun w h => (by cases h), fun _ => rfl⟩
  | p :: ws, vs, l => by
    obtain ⟨v, vs', rfl, a, b⟩ := kv_inv l
    have ih := kv_val (k := k) b
    by_cases e : p.1 = k
    · have h1 : valW (p :: ws) k = some p.2 := by unfold valW; simp [e]
      have h2 : valV ((p.1, v) :: vs') k = some v := valV_pos e
      rw [h1, h2]
      exact ⟨fun w h => by cases h; exact ⟨v, rfl, a⟩, fun h => by cases h⟩
    · have h1 : valW (p :: ws) k = valW ws k := by unfold valW; simp [e]
      have h2 : valV ((p.1, v) :: vs') k = valV vs' k := valV_neg e
      rw [h1, h2]
      exact ih
theorem kv_any {k : Key} {ws : List (Key × W)} {vs : List (Key × V)} (l : RelKV K r H vs ws) : (vs.any fun kv => decide (kv.1 = k)) = ws.any fun kv => decide (kv.1 = k) := by
  have e1 : (vs.any fun kv => decide (kv.1 = k)) = (vs.map (·.1)).any fun x => decide (x = k) := by rw [List.any_map]; rfl
  have e2 : (ws.any fun kv => decide (kv.1 = k)) = (ws.map (·.1)).any fun x => decide (x = k) := by rw [List.any_map]; rfl
  rw [e1, e2, l.1]
theorem kv_app {vs us : List (Key × V)} {ws zs : List (Key × W)} (l : RelKV K r H vs ws) (m : RelKV K r H us zs) : RelKV K r H (vs ++ us) (ws ++ zs) := by
  refine ⟨by rw [List.map_append, List.map_append, l.1, m.1], ?_⟩
  rw [List.map_append, List.map_append]
  exact l.2.app m.2
theorem kv_repl {k : Key} {v : V} {w : W} (h : Rep K r H v w) : ∀ {ws : List (Key × W)} {vs : List (Key × V)}, RelKV K r H vs ws → RelKV K r H (vs.map fun kv => if kv.1 = k then (kv.1, v) else kv) (ws.map fun kv => if kv.1 = k then (kv.1, w) else kv)
  | [], vs, l => by
    cases kv_empty l
    exact kv_nil
  | p :: ws, vs, l => by
    obtain ⟨u, vs', rfl, a, b⟩ := kv_inv l
    have ih := kv_repl (k := k) h b
    rw [List.map_cons, List.map_cons]
    by_cases e : p.1 = k
    · rw [if_pos e, if_pos e]
      exact kv_cons h ih
    · rw [if_neg e, if_neg e]
      exact kv_cons a ih
theorem kv_put {k : Key} {v : V} {w : W} (h : Rep K r H v w) {ws : List (Key × W)} {vs : List (Key × V)} (l : RelKV K r H vs ws) : RelKV K r H (putK vs k v) (putW ws k w) := by
  unfold putK putW
  rw [kv_any l]
  split
  · exact kv_repl h l
  · exact kv_app l (kv_cons h kv_nil)
theorem kv_mono {r' : List Addr} {H' : Hp} (e : Ext K r H r' H') {ws : List (Key × W)} {vs : List (Key × V)} (l : RelKV K r H vs ws) : RelKV K r' H' vs ws := ⟨l.1, l.2.mono e⟩
theorem new_dk (R : RelS K r H S) {p : Addr} {vs : List (Key × V)} {ws : List (Key × W)} (h : H p = none) (l : RelKV K r H vs ws) : RelS K (r ++ [p]) (upd H p (.dK vs)) (S ++ [.dk ws]) :=
  rel_mem R h ⟨vs, upd_same, kv_mono (ext_mem h) l⟩
theorem wr_dk (R : RelS K r H S) {i : Nat} {p : Addr} {vs vs' : List (Key × V)} {ws' : List (Key × W)} (hp : r[i]? = some p) (h : H p = some (.dK vs)) (l : RelKV K r H vs' ws') : RelS K r (upd H p (.dK vs')) (S.set i (.dk ws')) :=
  rel_wr R hp h trivial ⟨vs', upd_same, kv_mono (ext_wr hp h trivial) l⟩
end
/-! ### d[k] -/
def rIxDk : R2 := fun x y H Q => ∃ p kvs k v, x = .ref p ∧ y = kV k ∧ H p = some (.dK kvs) ∧ valV kvs k = some v ∧ Q v H
section
variable {X : Cx}
theorem ix_dk (hu : X.A.units + 64 < cLine) : IxR X rIxDk := by
  intro value slice pins s σ H x y v u Q I rx ry h hs
  obtain ⟨p, kvs, k, r, rfl, rfl, hp, hv, q⟩ := h
  obtain rfl : v = Value.ref p := rx
  have g : DGet H p (kV k) (some r) := by
    rw [← hv]
    exact .k hp
  exact tail_any (dict_typeIs I g) slot_dict_getitem.lookup (d_getItem (Nat.lt_of_le_of_lt (Nat.add_le_add_left (by decide : 1 ≤ 64) _) hu) I g ry fun w' s3 I3 rw' => ⟨r, H, I3, rw', q⟩) hs
end
def vIxD (x y : W) (S : Sto) (Q : WK) : Prop := match x with
  | .ref p => ∃ kvs k w, S[p]? = some (.dk kvs) ∧ keyW y = some k ∧ valW kvs k = some w ∧ Q w S
  | _ => False
def vIxA (x y : W) (S : Sto) (Q : WK) : Prop := vIx x y S Q ∨ vIxD x y S Q
theorem ixD_sim {K : Fg} : SimR K rIxDk vIxD := by
  intro r H S x y wx wy Q Q0 R px py d k
  cases px <;> try exact d.elim
  rename_i a j h
  obtain ⟨kvs, key, w, h0, h1, h2, q⟩ := d
  obtain ⟨vs, h3, l⟩ := R.obj j _ _ h h0
  obtain ⟨v, hv, pv⟩ := (kv_val l).1 w h2
  exact ⟨a, vs, key, v, rfl, rep_key py h1, h3, hv, k r H S _ _ .refl R pv q⟩
theorem SimR.or {K : Fg} {t t' : R2} {d d' : W → W → Sto → WK → Prop} (h : SimR K t d) (h' : SimR K t' d') : SimR K (fun x y H Q => t x y H Q ∨ t' x y H Q) (fun x y S Q => d x y S Q ∨ d' x y S Q) :=
  fun r H S x y wx wy Q Q0 R px py g k => g.elim (fun g => .inl (h r H S x y wx wy Q Q0 R px py g k)) (fun g => .inr (h' r H S x y wx wy Q Q0 R px py g k))
theorem SimC.or {K : Fg} {t t' : List V → Hp → VK → Prop} {d d' : List W → Sto → WK → Prop} (h : SimC K t d) (h' : SimC K t' d') : SimC K (fun x H Q => t x H Q ∨ t' x H Q) (fun x S Q => d x S Q ∨ d' x S Q) :=
  fun r H S x wx Q Q0 R px g k => g.elim (fun g => .inl (h r H S x wx Q Q0 R px g k)) (fun g => .inr (h' r H S x wx Q Q0 R px g k))
section
variable {X : Cx} {a b e o : Expr} {es : List Expr} {da db d0 : DE} {dA : DA} {pos : Pos}
theorem x_ixA (hu : X.A.units + 64 < cLine) (ha : XE X a da) (hb : XE X b db) (hs : PlainIx b := by exact fun _ _ => rfl) : XE X (.Subscript a b pos) (dOp vIxA da db) := xe_ix (IxR.or ix_seq (ix_dk hu)) (SimR.or ix_sim ixD_sim) ha hb hs
/-! ### d[k] = v -/
def vSetD (o i v : W) (S : Sto) (Q : Sto → Prop) : Prop := match o with
  | .ref p => ∃ kvs k, S[p]? = some (.dk kvs) ∧ keyW i = some k ∧ kvs.length < sizeLine ∧ Q (S.set p (.dk (putW kvs k v)))
  | _ => False
def rSetDk : V → V → V → Hp → (Hp → Prop) → Prop := fun o i v H Q => ∃ p kvs k, o = .ref p ∧ i = kV k ∧ H p = some (.dK kvs) ∧ kvs.length < sizeLine ∧ Q (upd H p (.dK (putK kvs k v)))
theorem set_dkv (hu : X.A.units + 64 < cLine) : PSet X rSetDk := by
  intro pins s σ H o i v ov iv u Q I ro ri rv h
  obtain ⟨p, kvs, k, rfl, rfl, hp, hl, q⟩ := h
  obtain rfl : ov = Value.ref p := ro
  exact d_setItem (Nat.lt_of_le_of_lt (Nat.add_le_add_left (by decide : 1 ≤ 64) _) hu) I (.k hp hl) ri rv fun s' I' => ⟨_, I', q⟩
theorem PSet.or {t t' : TSet} (h : PSet X t) (h' : PSet X t') : PSet X (fun o i v H Q => t o i v H Q ∨ t' o i v H Q) :=
  fun pins s σ H o i v ov iv u Q I ro ri rv g => g.elim (h pins s σ H o i v ov iv u Q I ro ri rv) (h' pins s σ H o i v ov iv u Q I ro ri rv)
theorem setD_sim {K : Fg} : SimSet K rSetDk vSetD := by
  intro r H S o i v wo wi w Q Q0 R po pi pv d k
  cases po <;> try exact d.elim
  rename_i a j h
  obtain ⟨kvs, key, h0, h1, hl, q⟩ := d
  obtain ⟨vs, h3, l⟩ := R.obj j _ _ h h0
  exact ⟨a, vs, key, rfl, rep_key pi h1, h3, by rw [kv_len l]; exact hl, k r _ _ (ext_wr h h3 trivial) (wr_dk R h h3 (kv_put pv l)) q⟩
def vSetA (o i v : W) (S : Sto) (Q : Sto → Prop) : Prop := vSet o i v S Q ∨ vSetD o i v S Q
theorem setA_sim {K : Fg} : SimSet K (fun o i v H Q => rSetL o i v H Q ∨ rSetDk o i v H Q) vSetA := fun r H S o i v wo wi w Q Q0 R po pi pv d k =>
  d.elim (fun d => .inl (set_sim r H S o i v wo wi w Q Q0 R po pi pv d k)) (fun d => .inr (setD_sim r H S o i v wo wi w Q Q0 R po pi pv d k))
theorem g_subA (hu : X.A.units + 64 < cLine) (ho : XE X o da) (hi : XE X b db) (ha : ∀ v, assign (.Subscript o b pos) X.env v = (do
      let ov ← holding [v] (eval o X.env)
      let iv ← holding [v, ov] (eval b X.env)
      standAt pos
      holding [v, ov, iv] (setItem ov iv v)
      release [v, ov, iv] []) := by intro _; rfl) : XG X (.Subscript o b pos) (gSb da db vSetA) := xg_sub (PSet.or set_list (set_dkv hu)) setA_sim ho hi ha
/-! ### {} -/
def dDict0 : DE := fun _ S Q => Q (.ref S.length) (S ++ [.dk []])
theorem xe_dict0 : XE X (.Dict [] [] pos) dDict0 := ⟨_, pe_dnewK, fun r H S s env Q Q0 R E d k => fun p hp => k _ _ _ _ _ (ext_mem hp) (new_dk R hp kv_nil) (rep_mem R) d⟩
/-! ### in -/
def vInD (neg : Bool) (x y : W) (S : Sto) (Q : WK) : Prop := match y with
  | .ref p => ∃ kvs k, S[p]? = some (.dk kvs) ∧ keyW x = some k ∧ Q (.bl (neg ^^ (valW kvs k).isSome)) S
  | .str z => ∃ c, x = .str ⟨#[c]⟩ ∧ Q (.bl (neg ^^ decide (c ∈ z.cps.toList))) S
  | _ => False
def rInDk (neg : Bool) : R2 := fun x y H Q => (∃ p kvs k, y = .ref p ∧ x = kV k ∧ H p = some (.dK kvs) ∧ Q (.bl (neg ^^ (valV kvs k).isSome)) H) ∨ ∃ (c : Nat) (z : Str), x = .str ⟨#[c]⟩ ∧ y = .str z ∧ Q (.bl (neg ^^ decide (c ∈ z.cps.toList))) H
theorem op_inDk (hu : X.A.units + 64 < cLine) : OpR X (compareOp .In) (rInDk false) := by
  intro pins s σ H x y v u Q I rx ry h
  rcases h with ⟨p, kvs, k, rfl, rfl, hp, q⟩ | h
  · obtain rfl : u = Value.ref p := ry
    rw [Bool.false_xor] at q
    exact d_in (Nat.lt_of_le_of_lt (Nat.add_le_add_left (by decide : 1 ≤ 64) _) hu) I (.k hp) rx fun s' I' => ⟨.bl _, H, I', rfl, q⟩
  · obtain ⟨c, z, rfl, rfl, q⟩ := h
    rw [Bool.false_xor] at q
    exact op_in_sign pins s σ H _ _ v u Q I rx ry ⟨c, z, rfl, rfl, q⟩
theorem op_notInDk (hu : X.A.units + 64 < cLine) : OpR X (compareOp .NotIn) (rInDk true) := by
  intro pins s σ H x y v u Q I rx ry h
  rcases h with ⟨p, kvs, k, rfl, rfl, hp, q⟩ | h
  · obtain rfl : u = Value.ref p := ry
    rw [Bool.true_xor] at q
    exact d_notIn (Nat.lt_of_le_of_lt (Nat.add_le_add_left (by decide : 1 ≤ 64) _) hu) I (.k hp) rx fun s' I' => ⟨.bl _, H, I', rfl, q⟩
  · obtain ⟨c, z, rfl, rfl, q⟩ := h
    rw [Bool.true_xor] at q
    exact op_notIn_sign pins s σ H _ _ v u Q I rx ry ⟨c, z, rfl, rfl, q⟩
theorem inDk_sim {K : Fg} {neg : Bool} : SimR K (rInDk neg) (vInD neg) := by
  intro r H S x y wx wy Q Q0 R px py d k
  cases py <;> try exact d.elim
  · obtain ⟨c, rfl, q⟩ := d
    cases px
    exact .inr ⟨c, _, rfl, rfl, k r H S _ _ .refl R (.bl _) q⟩
  · rename_i a j h
    obtain ⟨kvs, key, h0, h1, q⟩ := d
    obtain ⟨vs, h3, l⟩ := R.obj j _ _ h h0
    refine .inl ⟨a, vs, key, rfl, rep_key px h1, h3, ?_⟩
    have e : (valV vs key).isSome = (valW kvs key).isSome := by
      obtain ⟨f, g⟩ := kv_val (k := key) l
      cases hw : valW kvs key with
      | none => rw [g hw]; rfl
      | some w =>
        obtain ⟨v, hv, _⟩ := f w hw
        rw [hv]
        rfl
    rw [e]
    exact k r H S _ _ .refl R (.bl _) q
def vInA (neg : Bool) (x y : W) (S : Sto) (Q : WK) : Prop := vIn neg x y S Q ∨ vInD neg x y S Q
theorem x_inA (hu : X.A.units + 64 < cLine) (ha : XE X a da) (hb : XE X b db) (hm : behindInMarks .In b = false := by rfl) : XE X (.Compare a [.In] [b] pos) (dOp (vInA false) da db) := xe_cmp (OpR.or op_in_seq (op_inDk hu)) (SimR.or in_sim inDk_sim) ha hb hm
theorem x_notinA (hu : X.A.units + 64 < cLine) (ha : XE X a da) (hb : XE X b db) (hm : behindInMarks .NotIn b = false := by rfl) : XE X (.Compare a [.NotIn] [b] pos) (dOp (vInA true) da db) := xe_cmp (OpR.or op_notIn_seq (op_notInDk hu)) (SimR.or notin_sim inDk_sim) ha hb hm
theorem t_inA (hu : X.A.units + 64 < cLine) (ha : XE X a da) (hb : XE X b db) (hm : behindInMarks .In b = false := by rfl) : XT X (.Compare a [.In] [b] pos) (dB (dOp (vInA false) da db)) := xt_cmp (OpR.or op_in_seq (op_inDk hu)) (SimR.or in_sim inDk_sim) ha hb hm
theorem t_notinA (hu : X.A.units + 64 < cLine) (ha : XE X a da) (hb : XE X b db) (hm : behindInMarks .NotIn b = false := by rfl) : XT X (.Compare a [.NotIn] [b] pos) (dB (dOp (vInA true) da db)) := xt_cmp (OpR.or op_notIn_seq (op_notInDk hu)) (SimR.or notin_sim inDk_sim) ha hb hm
/-! ### list(d), len(d) -/
def vListD (xs : List W) (S : Sto) (Q : WK) : Prop := match xs with
  | [.ref p] => ∃ kvs, S[p]? = some (.dk kvs) ∧ Q (.ref S.length) (S ++ [.lst (kvs.map fun kv => wK kv.1)])
  | _ => False
theorem wKs_rep {K : Fg} {r : List Addr} {H : Hp} : ∀ {ws : List (Key × W)} {vs : List (Key × V)}, RelKV K r H vs ws → ∀ {r' : List Addr} {H' : Hp}, RepL K r' H' (vs.map fun kv => kV kv.1) (ws.map fun kv => wK kv.1)
  | [], vs, l, _, _ => by
    cases kv_empty l
    exact .nil
  | p :: ws, vs, l, _, _ => by
    obtain ⟨v, vs', rfl, a, b⟩ := kv_inv l
    exact .cons (rep_wK _) (wKs_rep b)
theorem listD_sim {K : Fg} : SimC K rListD vListD := by
  intro r H S xs ws Q Q0 R l d k
  cases l with
  | nil => exact d.elim
  | cons p l =>
    cases l with
    | cons p' l' => cases p <;> exact d.elim
    | nil =>
      cases p <;> try exact d.elim
      rename_i a j h
      obtain ⟨kvs, h0, q⟩ := d
      obtain ⟨vs, h3, l⟩ := R.obj j _ _ h h0
      exact ⟨a, vs, rfl, h3, fun p hp => k _ _ _ _ _ (ext_mem hp) (new_lst R hp (wKs_rep l)) (rep_mem R) q⟩
def vListA (xs : List W) (S : Sto) (Q : WK) : Prop := vList xs S Q ∨ vListD xs S Q
variable {p : Pos}
theorem c_listA (hc : X.calm = true) (hg : Gl X "list") (hm : X.mg "list" = none) (ha : XA X (e :: es) dA) (he : starEach (e :: es) X.env = (false, eval e X.env) :: starEach es X.env := by rfl) (hpl : (backTo pos (starEach es X.env)).any (·.1) = false := by rfl) : XE X (.Call (.Name "list" p) (e :: es) [] pos) (dCB vListA dA) :=
  xe_callTy (CallR.or call_list_of (call_list_dK hc)) (SimC.or list_sim listD_sim) hg hm (by decide +kernel) ha (by decide) (by decide) he hpl
/-! ### max -/
def vMaxA (xs : List W) (S : Sto) (Q : WK) : Prop := (∃ i j, xs = [.int i, .int j] ∧ Q (.int (max i j)) S) ∨ ∃ (p : Nat) (ns : List Int), xs = [.ref p] ∧ S[p]? = some (.lst (ns.map W.int)) ∧ 0 < ns.length ∧ ∀ m, m ∈ ns → (∀ y, y ∈ ns → y ≤ m) → Q (.int m) S
theorem max_sim {K : Fg} : SimC K (fun xs H Q => (∃ i j, xs = [.int i, .int j] ∧ Q (.int (if j > i then j else i)) H) ∨ rMax K xs H Q) vMaxA := by
  intro r H S xs ws Q Q0 R l d k
  rcases d with ⟨i, j, rfl, q⟩ | ⟨p, ns, rfl, hs, hn, q⟩
  · cases l with
    | cons a l =>
      cases l with
      | cons b l =>
        cases l
        cases a
        cases b
        refine .inl ⟨i, j, rfl, ?_⟩
        have e : max i j = if j > i then j else i := by
          split <;> omega
        rw [e] at q
        exact k r H S _ _ .refl R (.int _) q
  · cases l with
    | cons a l =>
      cases l
      cases a
      rename_i a h
      obtain ⟨vs, h3, l⟩ := R.obj p _ _ h hs
      have e := repL_ints l
      subst e
      exact .inr ⟨a, ns, rfl, .of h3, hn, fun m h1 h2 => k r H S _ _ .refl R (.int _) (q m h1 h2)⟩
theorem c_max (hc : X.calm = true) (hg : Gl X "max") (hm : X.mg "max" = none) (ha : XA X (e :: es) dA) (he : starEach (e :: es) X.env = (false, eval e X.env) :: starEach es X.env := by rfl) (hpl : (backTo pos (starEach es X.env)).any (·.1) = false := by rfl) : XE X (.Call (.Name "max" p) (e :: es) [] pos) (dCB vMaxA dA) :=
  xe_callB (CallR.or (call_max2 hc) (cr_max hc)) max_sim hg hm (by decide +kernel) ha (by decide) (by decide) he hpl
/-! ### extend, isalpha -/
variable {apos cpos : Pos}
def vExtend (x : W) (ws : List W) (S : Sto) (Q : WK) : Prop := match x, ws with
  | .ref i, [.ref j] => ∃ zs us, S[i]? = some (.lst zs) ∧ S[j]? = some (.lst us) ∧ zs.length + us.length ≤ sizeLine ∧ Q .non (S.set i (.lst (zs ++ us)))
  | _, _ => False
theorem extend_sim {K : Fg} : SimM K rExtend vExtend := by
  intro r H S x xs wx ws Q Q0 R px l d k
  cases px <;> try (cases l <;> exact d.elim)
  rename_i a i h
  cases l with
  | nil => exact d.elim
  | cons p l =>
    cases l with
    | cons p' l' => cases p <;> exact d.elim
    | nil =>
      cases p <;> try exact d.elim
      rename_i b j h'
      obtain ⟨zs, us, h0, h1, hz, q⟩ := d
      obtain ⟨xs, h3, l⟩ := R.obj i _ _ h h0
      obtain ⟨ys, h4, m⟩ := R.obj j _ _ h' h1
      exact ⟨a, b, xs, ys, rfl, rfl, h3, h4, by rw [l.length, m.length]; exact hz, k r _ _ _ _ (ext_wr h h3 trivial) (wr_lst R h h3 (l.app m)) .non q⟩
theorem m_extend {dr : DA} (ho : XE X o d0) (ha : XA X (e :: es) dr) (hbase : attributeBase o "extend" X.env (eval o X.env) = eval o X.env := by rfl)
    (hfew : ((backTo cpos (starEach (e :: es) X.env)).all (fun x => !x.1) && (backToKw cpos (keywordEach [] X.env)).all (fun x => x.1.isSome)
      && decide ((e :: es).length + ([] : List Keyword).length + (if ([] : List Keyword).isEmpty then 0 else 1) < 30)) = true := by rfl)
    (hline : (apos.endLine == cpos.line) = true := by rfl) (hs : starEach (e :: es) X.env = (false, eval e X.env) :: starEach es X.env := by rfl) (hplain : (backTo cpos (starEach es X.env)).any (·.1) = false := by rfl) :
    XE X (.Call (.Attribute o "extend" apos) (e :: es) [] cpos) (dBM "list" vExtend d0 dr) :=
  xe_bm PySem.F.plainAttrs_list PySem.F.slot_list_extend PySem.F.type_list_extend mt_extend extend_sim ho ha hbase hfew hline hs hplain
def vIsalpha (x : W) (ws : List W) (S : Sto) (Q : WK) : Prop := match x, ws with
  | .str a, [] => Q (.bl (Txt.isalpha a)) S
  | _, _ => False
theorem isalpha_sim {K : Fg} : SimM K (fun x xs H Q => ∃ a, x = .str a ∧ xs = [] ∧ True ∧ Q (.bl (Txt.isalpha a)) H) vIsalpha := by
  intro r H S x xs wx ws Q Q0 R px l d k
  cases px <;> try (cases l <;> exact d.elim)
  cases l with
  | cons p l => exact d.elim
  | nil => exact ⟨_, rfl, rfl, trivial, k r H S _ _ .refl R (.bl _) d⟩
end
end DL

/-! DLh: enumerate of a tuple or a list; zip; reversed; dict of pairs. -/
namespace DL
open PySem PySem.Spec PyProof.Rows L2
section
open PySem.AutoSeq1 (wpAny_loadPart')
theorem meets_enum1 {v : Value} {o : Obj} {H : Heap → Prop} (B : Begins v o H) :
    Meets (Builtin.«enumerate.__new__» ⟨[.type "enumerate", v], []⟩) (fun _ R s => H s.heap ∧
      R (.ok (.ret (.ref (s.heap.push o).objs.size))) { s with heap := (s.heap.push o).push { cls := .type "enumerate", data := .fields #[.none, .bool false, .ref s.heap.objs.size, rawInt 0, .none, .none] } }) :=
  .of_wp fun prog w A R s h => by
    obtain ⟨hp, g, d, tk, os⟩ := s; obtain ⟨h1, h⟩ := h
    have hsub := sub_enumerate
    have q1 : ∀ {A' : Around} {E : Value → Shared → Prop} {Q : Value → Shared → Prop}, Q (.ref hp.objs.size) ⟨hp.push o, g, d, tk, os⟩ → wpAny (model prog w) A' (pyIter v) Q E ⟨hp, g, d, tk, os⟩ :=
      fun q => B.iter prog w _ _ ⟨hp, g, d, tk, os⟩ _ h1 q
    wp_walk using q1
    refine wpAny_stack_any fun st => wpAny_pure ?_
    split
    · rename_i c _ _ _ _ _
      cases (c == Value.type "enumerate")
      · wp_walk using q1
        exact ⟨_, rfl, h⟩
      · wp_walk using q1
        exact ⟨_, rfl, h⟩
    · wp_walk using q1
      exact ⟨_, rfl, h⟩
theorem call_enum1 {prog : Program} {w : World} {A : Around} {E : Value → Shared → Prop} {s : Shared} {v : Value} {o : Obj} {H : Heap → Prop} {Q : Value → Shared → Prop} (B : Begins v o H) (h1 : H s.heap)
    (h : ∀ h', IsEnum h' (s.heap.objs.size + 1) s.heap.objs.size 0 .none → h'.get? s.heap.objs.size = some o → h'.objs.size = s.heap.objs.size + 2 →
      (∀ b o, s.heap.get? b = some o → h'.get? b = some o) → Q (.ref (s.heap.objs.size + 1)) { s with heap := h' }) :
    wpAny (model prog w) A (call (.type "enumerate") [v]) Q E s := by
  refine callType_new F.called_enumerate (by decide) (F.typeCall_enumerate_1 _) (F.newCall_enumerate_1 _) (fun obj => F.args_object_init_2 obj _) F.entry_enumerate_new (meets_enum1 B) ⟨h1, ?_⟩
  have hz : (s.heap.push o).objs.size = s.heap.objs.size + 1 := Heap.size_push ..
  show _ ∧ _
  rw [hz]
  have he : IsEnum ((s.heap.push o).push { cls := .type "enumerate", data := .fields #[.none, .bool false, .ref s.heap.objs.size, rawInt 0, .none, .none] }) (s.heap.objs.size + 1) s.heap.objs.size 0 .none := by
    have := Heap.get?_push_size (s.heap.push o) (o := { cls := .type "enumerate", data := .fields #[.none, .bool false, .ref s.heap.objs.size, rawInt 0, .none, .none] }) rfl
    rw [hz] at this; exact this
  exact ⟨⟨_, he, rfl⟩, h _ he (Heap.get?_push_of_some _ (Heap.get?_push_size _ B.free)) (by rw [Heap.size_push, hz]) fun b o x => Heap.get?_push_of_some _ (Heap.get?_push_of_some _ x)⟩
end
/-- the tuple at a, each item in a new pair -/
def IteT (K : PySem.W.Frag) (a : Addr) : It :=
  ⟨fun i H => ∃ (xs : List V) (x : V), SqT K H a xs ∧ xs[i]? = some x, fun i H v H' => ∃ T x, v = .ref T ∧ H T = none ∧ H' = upd H T (.tup [.int (i : Nat), x]) ∧ ∀ xs, SqT K H a xs → xs[i]? = some x, fun i H => ∃ xs : List V, SqT K H a xs ∧ xs.length ≤ i⟩
theorem turn_enumT {P : Program} {w : World} {K : PySem.W.Frag} {elts : List Expr} {kk : Nat} {tpos : Pos} (a e it : Addr) (hea : e ≠ a) (hia : a ≠ it) :
    Turn P w K (.Tuple elts kk tpos) (IteT K a) [e, it] e (fun i h => (∃ old, IsEnum h e it ((i : Nat) : Int) old) ∧ h.IsTupleIter it a i ∧ e ≠ it) where
  mem := by simp
  obj := fun i h st b hb => by
    obtain ⟨⟨old, he⟩, ⟨o, ho, hc, hd⟩, _⟩ := st
    have e' : b = e ∨ b = it := by simpa using hb
    rcases e' with z | z
    · rw [z]; exact ⟨_, he, fun v q => nomatch q⟩
    · rw [z]; exact ⟨o, ho, fun v q => by rw [hd] at q; cases q⟩
  keep := fun i h h' st k => let ⟨⟨old, he⟩, hi, hne⟩ := st; ⟨⟨old, k e (by simp) _ he⟩, hi.at fun o q => k it (by simp) o q, hne⟩
  item := by
    intro X hP hw hK hc i pins s σ H E I hf st hg
    subst hP hw hK
    obtain ⟨⟨old, he⟩, hit, hne⟩ := st
    obtain ⟨xs, x, hq, hx⟩ := hg
    obtain ⟨its, rv, p, hz⟩ := I.tuple hq
    obtain ⟨u, hu, ru⟩ := rv.get hx
    have hel : e < s.heap.objs.size := Heap.lt_size he
    have hil : it < s.heap.objs.size := by obtain ⟨_, q, _⟩ := hit; exact Heap.lt_size q
    have hlt : i < its.toArray.size := by
      rw [List.size_toArray]
      exact (List.getElem?_eq_some_iff.mp hu).1
    refine wpAny_pyNext_enum_itemC (Draws.tuple (prog := X.prog) (w := X.w) (A := X.A.in1) (show X.A.in1.handled = none from I.ok.hd hc) it a hia its.toArray) he ⟨hit, show s.heap.IsTuple a its.toArray from p⟩ hlt hne (by simp [hne, hea]) fun y h' tk hy ho st' hT hsz hk => ?_
    have ey : y = u := by
      have e1 : its.toArray[i]? = some u := by simpa using hu
      rw [e1] at hy
      exact (Option.some.inj hy).symm
    subst ey
    refine ⟨_, rfl, wpAny_letOwnedTupleGo_enum (s := { s with heap := h', toks := tk + 1 }) ho fun h'' he' sb => ?_⟩
    have hT2 : h''.get? s.heap.objs.size = some { cls := .type "tuple", data := .seq #[.int i tk, y] } := (sb.2 _ (Nat.ne_of_gt hel)).trans hT
    have new : ObjOk X.prog X.w (upd H s.heap.objs.size (.tup [.int (i : Nat), x])) h'' s.heap.objs.size (.tup [.int (i : Nat), x]) :=
      ⟨by show 2 ≤ sizeLine; decide, [.int i tk, y], .cons ⟨_, rfl⟩ (.cons ru .nil), ⟨_, hT2, rfl, _, rfl⟩⟩
    have I1 : Inv X pins σ (upd H s.heap.objs.size (.tup [.int (i : Nat), x])) { s with heap := h'', toks := tk + 1 } :=
      I.turnedNew (ch := [e, it]) (fun b ob hb q => (sb.2 b (fun z => hb (by simp [z]))).trans (hk b ob (fun z => hb (by simp [z])) (fun z => hb (by simp [z])) q)) hf (Nat.le_refl _) new
    refine ⟨.ref s.heap.objs.size, _, I1, rfl, ⟨_, x, rfl, I.hok.fresh (Nat.le_refl _), rfl, fun ys hy => by rw [I.tuple_inj hy hq]; exact hx⟩, ⟨⟨y, ?_⟩, st'.1.at fun o q => (sb.2 it (Ne.symm hne)).trans q, hne⟩, fun b hb => ?_⟩
    · have e1 : ((i + 1 : Nat) : Int) = (i : Int) + 1 := by omega
      rw [e1]; exact he'
    · have hb' : b < s.heap.objs.size := by
        have e' : b = e ∨ b = it := by simpa using hb
        rcases e' with z | z
        · rw [z]; exact hel
        · rw [z]; exact hil
      rw [upd_ne (Nat.ne_of_lt hb')]
      exact (hf b hb).1
  done := by
    intro X hP hw hK hc i pins s σ H E I hf st hg
    subst hP hw hK
    obtain ⟨⟨old, he⟩, hit, hne⟩ := st
    obtain ⟨xs, hq, hx⟩ := hg
    obtain ⟨its, rv, p, hz⟩ := I.tuple hq
    obtain ⟨f0, f1, f2, f3, f4, f5⟩ := hf it (by simp)
    have hl := rv.length
    have hge : its.toArray[i]? = none := by
      rw [Array.getElem?_eq_none]
      rw [List.size_toArray]
      omega
    have D : Draws X.prog X.w X.A.in1 it [it, a] i (fun j v => True) (fun j h => h.IsTupleIter it a j ∧ h.IsTuple a its.toArray ∧ j = i) :=
      { live := fun _ _ st => let ⟨o, ho, _⟩ := st.1; ⟨o, ho⟩
        frame := fun _ _ _ st hk => ⟨st.1.at fun o e => hk it (by simp) o e, st.2.1.at fun o e => hk a (by simp) o e, st.2.2⟩
        item := fun j s Q E hi st hQ => by
          have := st.2.2
          omega
        done := fun s Q E st hE => wpAny_nextOf_tuple_end (show X.A.in1.handled = none from I.ok.hd hc) st.1 st.2.1 hge hE }
    exact wpAny_pyNext_enum_endD D he ⟨hit, show s.heap.IsTuple a its.toArray from p, rfl⟩ fun h' eb => ⟨rfl, I.turned (t' := s.toks) (fun b o hb q => eb b o hb q) f0 f1 f3 f4 f5⟩
  self := fun A i s Q E st h => let ⟨⟨_, he⟩, _⟩ := st; wpAny_pyIter_enum he h
/-- enumerate of a list, a tuple -/
def tEnumI (K : Fg) (ta : TA) : TI := fun σ H R => ta σ H fun vs H1 => ∃ a xs, vs = [.ref a] ∧ ((SqL K H1 a xs ∧ R (Ite K a) H1) ∨ (SqT K H1 a xs ∧ R (IteT K a) H1))
theorem pi_enumA {X : Cx} {e : Expr} {ta : TA} {p pos tpos : Pos} {elts : List Expr} {kk : Nat} (hg : Gl X "enumerate") (hm : X.mg "enumerate" = none) (ha : PA X [e] ta) (hs : starEach [e] X.env = [(false, eval e X.env)] := by rfl) :
    PI X (.Tuple elts kk tpos) (.Call (.Name "enumerate" p) [e] [] pos) (tEnumI X.K ta) := by
  refine ⟨fun pins s σ H R I h => ?_⟩
  refine Call_ (ld_blt I hg hm boot_enumerate (PyProof.Rows.callWith_type1 (thn (ha.run pos pins s σ H _ I h) fun us s1 ⟨vs, H1, I1, r1, q1⟩ => ?_) hs rfl))
  obtain ⟨a, xs, ex, q⟩ := q1
  subst ex
  cases r1 with
  | cons r rr =>
    cases rr
    cases r
    have fresh2 : ∀ b ∈ [s1.heap.objs.size + 1, s1.heap.objs.size], FpOk X pins H1 b := fun b hb => by
      have e' : b = s1.heap.objs.size + 1 ∨ b = s1.heap.objs.size := by simpa using hb
      have hle : s1.heap.objs.size ≤ b := by
        rcases e' with z | z
        · rw [z]; exact Nat.le_add_right _ _
        · rw [z]; exact Nat.le_refl _
      exact I1.fpOk hle (I1.hok.fresh hle)
    rcases q with ⟨hq, q⟩ | ⟨hq, q⟩
    · obtain ⟨its, rv, p', hz⟩ := I1.list hq
      refine call_enumerate_list p'.isList fun h' he hit hsz hk => wpAny_pyIter_enum he ?_
      have I2 : Inv X pins σ H1 { s1 with heap := h' } := I1.kept (t' := s1.toks) hk
      exact ⟨s1.heap.objs.size + 1, [s1.heap.objs.size + 1, s1.heap.objs.size], _, _, H1, rfl, I2, turn_enum a (s1.heap.objs.size + 1) s1.heap.objs.size, ⟨⟨.none, he⟩, hit, Nat.succ_ne_self _⟩, fresh2, q⟩
    · obtain ⟨its, rv, p', hz⟩ := I1.tuple hq
      obtain ⟨o1, ho1, _⟩ := id p'
      have hlt : a < s1.heap.objs.size := Heap.lt_size ho1
      refine call_enum1 (begins_tuple a its.toArray) (show s1.heap.IsTuple a its.toArray from p') fun h' he ho hsz hk => wpAny_pyIter_enum he ?_
      have I2 : Inv X pins σ H1 { s1 with heap := h' } := I1.kept (t' := s1.toks) hk
      exact ⟨s1.heap.objs.size + 1, [s1.heap.objs.size + 1, s1.heap.objs.size], _, _, H1, rfl, I2, turn_enumT a (s1.heap.objs.size + 1) s1.heap.objs.size (Nat.ne_of_gt (Nat.lt_succ_of_lt hlt)) (Nat.ne_of_lt hlt), ⟨⟨.none, he⟩, ⟨_, ho, rfl, rfl⟩, Nat.succ_ne_self _⟩, fresh2, q⟩
def enumW (ws : List W) : List W := ws.mapIdx fun i w => .tup [.int (i : Int), w]
theorem enumW_get {ws : List W} {i : Nat} {x : W} (h : (enumW ws)[i]? = some x) : ∃ w, ws[i]? = some w ∧ x = .tup [.int (i : Int), w] := by
  unfold enumW at h
  rw [List.getElem?_mapIdx] at h
  obtain ⟨w, h1, h2⟩ := Option.map_eq_some_iff.mp h
  exact ⟨w, h1, h2.symm⟩
theorem enumW_len {ws : List W} : (enumW ws).length = ws.length := by
  unfold enumW
  exact List.length_mapIdx
def iEnumerate (da : DA) : DI := fun env S Q => da env S fun us S1 => match us with
  | [w] => vSeqI w S1 fun ws still => Q (enumW ws) still
  | _ => False
theorem pair_ok {K : Fg} {r : List Addr} {H : Hp} {S : Sto} {T : Addr} {v1 v2 : V} {w1 w2 : W} (R : RelS K r H S) (hT : H T = none) (p1 : Rep K r H v1 w1) (p2 : Rep K r H v2 w2) :
    Ext K r H r (upd H T (.tup [v1, v2])) ∧ RelS K r (upd H T (.tup [v1, v2])) S ∧ Rep K r (upd H T (.tup [v1, v2])) (.ref T) (.tup [w1, w2]) :=
  ⟨ext_new hT, rel_new R hT, rep_tup hT (.cons p1 (.cons p2 .nil))⟩
theorem enumT_ok {K : Fg} {r : List Addr} {H : Hp} {a : Addr} {xs : List V} {ws : List W} (q : SqT K H a xs) (l : RepL K r H xs ws) : ItOk K (IteT K a) (enumW ws) (fun _ => True) r H := by
  refine ⟨fun r' H' S' i x e R _ hx => ?_, fun r' H' S' i e R _ hl => ⟨_, e.tup _ _ q, by rw [l.length]; rwa [enumW_len] at hl⟩⟩
  obtain ⟨w, hw, rfl⟩ := enumW_get hx
  obtain ⟨v, hv, pv⟩ := l.get hw
  refine ⟨⟨_, _, e.tup _ _ q, hv⟩, fun v' H3 hy => ?_⟩
  obtain ⟨T, y, rfl, hT, rfl, f⟩ := hy
  have := Option.some.inj ((f _ (e.tup _ _ q)).symm.trans hv)
  subst this
  exact pair_ok R hT (.int _) (pv.mono' e)
theorem enumL_ok {K : Fg} {r : List Addr} {H : Hp} {a : Addr} {ws : List W} {still : Sto → Prop} (f : ∀ r' H' S', Kp K r H r' H' → RelS K r' H' S' → still S' → ∃ xs, SqL K H' a xs ∧ RepL K r' H' xs ws) : ItOk K (Ite K a) (enumW ws) still r H := by
  refine ⟨fun r' H' S' i x e R st hx => ?_, fun r' H' S' i e R st hl => ?_⟩
  · obtain ⟨xs, q, l⟩ := f r' H' S' e R st
    obtain ⟨w, hw, rfl⟩ := enumW_get hx
    obtain ⟨v, hv, pv⟩ := l.get hw
    refine ⟨⟨_, _, q, hv⟩, fun v' H3 hy => ?_⟩
    obtain ⟨T, y, rfl, hT, rfl, g⟩ := hy
    have := Option.some.inj ((g _ q).symm.trans hv)
    subst this
    exact pair_ok R hT (.int _) pv
  · obtain ⟨xs, q, l⟩ := f r' H' S' e R st
    exact ⟨xs, q, by rw [l.length]; rwa [enumW_len] at hl⟩
theorem seqI_cases {K : Fg} {r : List Addr} {H : Hp} {S : Sto} {v : V} {w : W} {Q : List W → (Sto → Prop) → Sto → Prop} (R : RelS K r H S) (p : Rep K r H v w) (h : vSeqI w S Q) :
    ∃ a, v = .ref a ∧ ∃ ws still, Q ws still S ∧ ((∃ xs, SqT K H a xs ∧ RepL K r H xs ws ∧ still = fun _ => True) ∨ ((∃ xs, SqL K H a xs) ∧ ∀ r' H' S', Kp K r H r' H' → RelS K r' H' S' → still S' → ∃ xs, SqL K H' a xs ∧ RepL K r' H' xs ws)) := by
  cases p with
  | @tup a xs ws q l => exact ⟨a, rfl, ws, _, h, .inl ⟨xs, q, l, rfl⟩⟩
  | @lit a xs ws q l => exact ⟨a, rfl, ws, _, h, .inr ⟨⟨_, q.1⟩, fun r' H' S' e _ _ => ⟨xs, (q.mono e).1, l.mono' e⟩⟩⟩
  | @ref a i q =>
    obtain ⟨ws, hs, h⟩ := h
    obtain ⟨xs, h1, l⟩ := R.obj i a _ q hs
    refine ⟨a, rfl, ws, _, h, .inr ⟨⟨_, .of h1⟩, fun r' H' S' e R' st => ?_⟩⟩
    obtain ⟨ys, h2, l2⟩ := R'.obj i a _ (e.pre _ _ q) st
    exact ⟨ys, .of h2, l2⟩
  | _ => exact h.elim
theorem xi_enumerate {X : Cx} {e : Expr} {da : DA} {p pos tpos : Pos} {elts : List Expr} {kk : Nat} (hg : Gl X "enumerate") (hm : X.mg "enumerate" = none) (ha : XA X [e] da) (hs : starEach [e] X.env = [(false, eval e X.env)] := by rfl) :
    XI X (.Tuple elts kk tpos) (.Call (.Name "enumerate" p) [e] [] pos) (iEnumerate da) := by
  obtain ⟨t, p, s⟩ := ha.ex
  refine ⟨_, pi_enumA hg hm p hs, fun r H S st env Q Q0 R E g k => ?_⟩
  refine s r H S st env _ _ R E g fun r1 H1 S1 vs us e1 R1 q1 d1 => ?_
  cases q1 with
  | nil => exact d1.elim
  | cons a b =>
    cases b with
    | cons _ _ => exact d1.elim
    | nil =>
      obtain ⟨a, rfl, ws, still, q, h⟩ := seqI_cases R1 a d1
      rcases h with ⟨xs, hq, l, rfl⟩ | ⟨⟨xs, hq⟩, f⟩
      · exact ⟨_, xs, rfl, .inr ⟨hq, k r1 H1 S1 _ _ _ e1 R1 (enumT_ok hq l) q⟩⟩
      · exact ⟨_, xs, rfl, .inl ⟨hq, k r1 H1 S1 _ _ _ e1 R1 (enumL_ok f) q⟩⟩
end DL

/-! DLi: dict of pairs, dict copies; text methods; chains of equations for these. -/
namespace DL
open PySem PySem.Spec PyProof.Rows L2
def mergeW (kvs more : List (Key × W)) : List (Key × W) := more.foldl (fun acc kv => putW acc kv.1 kv.2) kvs
def pairW (kv : Key × W) : W := .tup [wK kv.1, kv.2]
section
variable {K : Fg} {r : List Addr} {H : Hp}
theorem rep_of_wK {v : V} {k : Key} (p : Rep K r H v (wK k)) : v = kV k := rep_key p (keyW_wK k)
theorem pairs_rep : ∀ {kws : List (Key × W)} {vs : List V}, RepL K r H vs (kws.map pairW) → ∃ (ps : List Addr) (kvs : List (Key × V)), vs = ps.map V.ref ∧ Paired (fun p kv => SqT K H p [kV kv.1, kv.2]) ps kvs ∧ RelKV K r H kvs kws
  | [], vs, l => by
    cases l
    exact ⟨[], [], rfl, .nil, kv_nil⟩
  | (k, w) :: kws, vs, l => by
    cases l with
    | cons a b =>
      obtain ⟨ps, kvs, e, h1, h2⟩ := pairs_rep b
      have a' : Rep K r H _ (.tup [wK k, w]) := a
      cases a' with
      | tup q m =>
        cases m with
        | cons m1 m =>
          cases m with
          | cons m2 m =>
            cases m
            have ek := rep_of_wK m1
            subst ek
            rename_i A v2
            exact ⟨A :: ps, (k, v2) :: kvs, by rw [e]; rfl, .cons q h1, kv_cons m2 h2⟩
theorem merge_sim : ∀ {more : List (Key × V)} {moreW : List (Key × W)} {acc : List (Key × V)} {accW : List (Key × W)}, RelKV K r H more moreW → RelKV K r H acc accW → RelKV K r H (mergeK acc more) (mergeW accW moreW)
  | more, [], acc, accW, l, m => by
    cases kv_empty l
    exact m
  | more, p :: moreW, acc, accW, l, m => by
    obtain ⟨v, vs', rfl, a, b⟩ := kv_inv l
    show RelKV K r H (mergeK (putK acc p.1 v) vs') (mergeW (putW accW p.1 p.2) moreW)
    exact merge_sim b (kv_put a m)
end
def vDict (xs : List W) (S : Sto) (Q : WK) : Prop := match xs with
  | [.ref p] => (∃ kws, S[p]? = some (.lst (kws.map pairW)) ∧ Q (.ref S.length) (S ++ [.dk (mergeW [] kws)])) ∨ ∃ kvs, S[p]? = some (.dk kvs) ∧ Q (.ref S.length) (S ++ [.dk kvs])
  | _ => False
theorem dict_sim {K : Fg} : SimC K (fun xs H Q => (∃ (a : Addr) (ps : List Addr) (kvs : List (Key × V)), xs = [.ref a] ∧ SqL K H a (ps.map V.ref) ∧ Paired (fun p kv => SqT K H p [kV kv.1, kv.2]) ps kvs ∧ ∀ p, H p = none → Q (.ref p) (upd H p (.dK (mergeK [] kvs)))) ∨
    ∃ (a : Addr) (kvs : List (Key × V)), xs = [.ref a] ∧ Rd H a (.dK kvs) ∧ ∀ p, H p = none → Q (.ref p) (upd H p (.dK kvs))) vDict := by
  intro r H S xs ws Q Q0 R l d k
  cases l with
  | nil => exact d.elim
  | cons p l =>
    cases l with
    | cons p' l' => cases p <;> exact d.elim
    | nil =>
      cases p <;> try exact d.elim
      rename_i a j h
      rcases d with ⟨kws, h0, q⟩ | ⟨kvs, h0, q⟩
      · obtain ⟨xs, h3, l⟩ := R.obj j _ _ h h0
        obtain ⟨ps, kvs, rfl, h1, h2⟩ := pairs_rep l
        exact .inl ⟨a, ps, kvs, rfl, .of h3, h1, fun p hp => k _ _ _ _ _ (ext_mem hp) (new_dk R hp (merge_sim h2 kv_nil)) (rep_mem R) q⟩
      · obtain ⟨vs, h3, l⟩ := R.obj j _ _ h h0
        exact .inr ⟨a, vs, rfl, .inl h3, fun p hp => k _ _ _ _ _ (ext_mem hp) (new_dk R hp l) (rep_mem R) q⟩
section
variable {X : Cx} {a b e o : Expr} {es : List Expr} {da db d0 : DE} {dA : DA} {pos p apos cpos : Pos}
theorem c_dict (hc : X.calm = true) (hg : Gl X "dict") (hm : X.mg "dict" = none) (ha : XA X (e :: es) dA) (he : starEach (e :: es) X.env = (false, eval e X.env) :: starEach es X.env := by rfl) (hpl : (backTo pos (starEach es X.env)).any (·.1) = false := by rfl) : XE X (.Call (.Name "dict" p) (e :: es) [] pos) (dCB vDict dA) :=
  xe_callTy (CallR.or (call_dictP hc) L2.call_dictD) dict_sim hg hm (by decide +kernel) ha (by decide) (by decide) he hpl
theorem m_isalpha (ho : XE X o d0) (hbase : attributeBase o "isalpha" X.env (eval o X.env) = eval o X.env := by rfl) (hline : (apos.endLine == cpos.line) = true := by rfl) :
    XE X (.Call (.Attribute o "isalpha" apos) [] [] cpos) (dBM0 "str" vIsalpha d0) :=
  xe_bm0 PySem.F.plainAttrs_str PySem.F.slot_str_isalpha PySem.F.type_str_isalpha mt_isalpha isalpha_sim ho hbase hline
end
/-! ### equations -/
section
variable {S : Sto} {Q : WK} {i : Nat}
theorem or_false_l {p q : Prop} (h : ¬ p) : (p ∨ q) = q := propext ⟨fun o => o.resolve_left h, .inr⟩
theorem or_false_r {p q : Prop} (h : ¬ q) : (p ∨ q) = p := propext ⟨fun o => o.resolve_right h, .inl⟩
theorem e_ixAT {ws : List W} {k : Int} {w : W} (h : atI ws k = some w) : vIxA (.tup ws) (.int k) S Q = Q w S := by
  unfold vIxA
  rw [or_false_r (show ¬ vIxD (.tup ws) (.int k) S Q from fun x => x), e_ixT h]
theorem e_ixALit {ws : List W} {k : Int} {w : W} (h : atI ws k = some w) : vIxA (.lit ws) (.int k) S Q = Q w S := by
  unfold vIxA
  rw [or_false_r (show ¬ vIxD (.lit ws) (.int k) S Q from fun x => x), e_ixLit h]
theorem e_ixAL {ws : List W} {k : Int} {w : W} (h0 : S[i]? = some (.lst ws)) (h : atI ws k = some w) : vIxA (.ref i) (.int k) S Q = Q w S := by
  unfold vIxA
  rw [or_false_r (fun ⟨kvs, _, _, x, _⟩ => by rw [h0] at x; cases x), e_ixL h0 h]
theorem e_ixAS {z : Str} {k : Int} {c : Nat} (h : atI z.cps.toList k = some c) : vIxA (.str z) (.int k) S Q = (z.length ≤ sizeLine ∧ Q (.str ⟨#[c]⟩) S) := by
  unfold vIxA
  rw [or_false_r (show ¬ vIxD (.str z) (.int k) S Q from fun x => x), e_ixS h]
theorem e_ixAD {kvs : List (Key × W)} {y w : W} {k : Key} (h0 : S[i]? = some (.dk kvs)) (hk : keyW y = some k) (h : valW kvs k = some w) : vIxA (.ref i) y S Q = Q w S := by
  unfold vIxA
  have n : ¬ vIx (.ref i) y S Q := fun x => by
    cases y <;> first | exact x | (obtain ⟨ws, w, e, _⟩ := x; rw [h0] at e; cases e)
  rw [or_false_l n]
  show (∃ kvs k w, S[i]? = some (.dk kvs) ∧ keyW y = some k ∧ valW kvs k = some w ∧ Q w S) = _
  exact propext ⟨fun ⟨kvs', k', w', a, b, c, q⟩ => by rw [h0] at a; cases a; rw [hk] at b; cases b; rw [h] at c; cases c; exact q, fun q => ⟨kvs, k, w, h0, hk, h, q⟩⟩
theorem e_setAL {ws : List W} {k : Int} {j : Nat} {v : W} {QS : Sto → Prop} (h0 : S[i]? = some (.lst ws)) (h : ixN ws.length k = some j) : vSetA (.ref i) (.int k) v S QS = QS (S.set i (.lst (ws.set j v))) := by
  unfold vSetA
  rw [or_false_r (fun ⟨kvs, _, x, _⟩ => by rw [h0] at x; cases x), e_set h0 h]
theorem e_setAD {kvs : List (Key × W)} {y v : W} {k : Key} {QS : Sto → Prop} (h0 : S[i]? = some (.dk kvs)) (hk : keyW y = some k) : vSetA (.ref i) y v S QS = (kvs.length < sizeLine ∧ QS (S.set i (.dk (putW kvs k v)))) := by
  unfold vSetA
  have n : ¬ vSet (.ref i) y v S QS := fun x => by
    cases y <;> first | exact x | (obtain ⟨ws, w, e, _⟩ := x; rw [h0] at e; cases e)
  rw [or_false_l n]
  show (∃ kvs k, S[i]? = some (.dk kvs) ∧ keyW y = some k ∧ kvs.length < sizeLine ∧ QS (S.set i (.dk (putW kvs k v)))) = _
  exact propext ⟨fun ⟨kvs', k', a, b, c, q⟩ => by rw [h0] at a; cases a; rw [hk] at b; cases b; exact ⟨c, q⟩, fun ⟨c, q⟩ => ⟨kvs, k, h0, hk, c, q⟩⟩
theorem e_dict0 {env : Slots} : dDict0 env S Q = Q (.ref S.length) (S ++ [.dk []]) := rfl
theorem e_inAL {n : Bool} {x : W} {ws : List W} (h : S[i]? = some (.lst ws)) : vInA n x (.ref i) S Q = (flW x = true ∧ ws.all flW = true ∧ Q (.bl (n ^^ inW x ws)) S) := by
  unfold vInA
  rw [or_false_r (fun ⟨kvs, _, e, _⟩ => by rw [h] at e; cases e), e_in h]
theorem e_inAT {n : Bool} {x : W} {ws : List W} : vInA n x (.tup ws) S Q = (flW x = true ∧ ws.all flW = true ∧ Q (.bl (n ^^ inW x ws)) S) := by
  unfold vInA
  rw [or_false_r (show ¬ vInD n x (.tup ws) S Q from fun x => x), e_inT]
theorem e_inAD {n : Bool} {x : W} {kvs : List (Key × W)} {k : Key} (h : S[i]? = some (.dk kvs)) (hk : keyW x = some k) : vInA n x (.ref i) S Q = Q (.bl (n ^^ (valW kvs k).isSome)) S := by
  unfold vInA
  have no : ¬ vIn n x (.ref i) S Q := fun ⟨ws, e, _⟩ => by
    have e' : (match S[i]? with | some (.lst ws) => some ws | _ => none) = some ws := e
    rw [h] at e'
    cases e'
  rw [or_false_l no]
  show (∃ kvs k, S[i]? = some (.dk kvs) ∧ keyW x = some k ∧ Q (.bl (n ^^ (valW kvs k).isSome)) S) = _
  exact propext ⟨fun ⟨kvs', k', a, b, q⟩ => by rw [h] at a; cases a; rw [hk] at b; cases b; exact q, fun q => ⟨kvs, k, h, hk, q⟩⟩
theorem e_inAS {n : Bool} {c : Nat} {z : Str} : vInA n (.str ⟨#[c]⟩) (.str z) S Q = Q (.bl (n ^^ decide (c ∈ z.cps.toList))) S := by
  unfold vInA
  rw [or_false_l (fun ⟨ws, e, _⟩ => by cases e)]
  exact propext ⟨fun ⟨c', e, q⟩ => by cases e; exact q, fun q => ⟨c, rfl, q⟩⟩
theorem e_listAT {ws : List W} : vListA [.tup ws] S Q = Q (.ref S.length) (S ++ [.lst ws]) := by
  unfold vListA
  rw [or_false_r (show ¬ vListD [.tup ws] S Q from fun x => x), e_listT]
theorem e_listALit {ws : List W} : vListA [.lit ws] S Q = Q (.ref S.length) (S ++ [.lst ws]) := by
  unfold vListA
  rw [or_false_r (show ¬ vListD [.lit ws] S Q from fun x => x), e_listLit]
theorem e_listAL {ws : List W} (h : S[i]? = some (.lst ws)) : vListA [.ref i] S Q = Q (.ref S.length) (S ++ [.lst ws]) := by
  unfold vListA
  rw [or_false_r (fun ⟨kvs, e, _⟩ => by rw [h] at e; cases e), e_listL h]
theorem e_listAD {kvs : List (Key × W)} (h : S[i]? = some (.dk kvs)) : vListA [.ref i] S Q = Q (.ref S.length) (S ++ [.lst (kvs.map fun kv => wK kv.1)]) := by
  unfold vListA
  have no : ¬ vList [.ref i] S Q := fun ⟨ws, e, _⟩ => by
    have e' : (match S[i]? with | some (.lst ws) => some ws | _ => none) = some ws := e
    rw [h] at e'
    cases e'
  rw [or_false_l no]
  show (∃ kvs, S[i]? = some (.dk kvs) ∧ Q (.ref S.length) (S ++ [.lst (kvs.map fun kv => wK kv.1)])) = _
  exact propext ⟨fun ⟨kvs', e, q⟩ => by rw [h] at e; cases e; exact q, fun q => ⟨kvs, h, q⟩⟩
theorem e_max2 {a b : Int} : vMaxA [.int a, .int b] S Q = Q (.int (max a b)) S := by
  unfold vMaxA
  refine propext ⟨fun h => ?_, fun q => .inl ⟨a, b, rfl, q⟩⟩
  rcases h with ⟨i, j, e, q⟩ | ⟨p, ns, e, _⟩
  · cases e
    exact q
  · cases e
theorem e_extend {j : Nat} {ws us : List W} (h : S[i]? = some (.lst ws)) (h2 : S[j]? = some (.lst us)) : vExtend (.ref i) [.ref j] S Q = (ws.length + us.length ≤ sizeLine ∧ Q .non (S.set i (.lst (ws ++ us)))) := by
  show (∃ zs us, S[i]? = some (.lst zs) ∧ S[j]? = some (.lst us) ∧ zs.length + us.length ≤ sizeLine ∧ Q .non (S.set i (.lst (zs ++ us)))) = _
  exact propext ⟨fun ⟨a, b, e1, e2, c, q⟩ => by rw [h] at e1; cases e1; rw [h2] at e2; cases e2; exact ⟨c, q⟩, fun ⟨c, q⟩ => ⟨ws, us, h, h2, c, q⟩⟩
theorem e_isalpha {a : Str} : vIsalpha (.str a) [] S Q = Q (.bl (Txt.isalpha a)) S := rfl
theorem e_dictP {kws : List (Key × W)} (h : S[i]? = some (.lst (kws.map pairW))) : vDict [.ref i] S Q = Q (.ref S.length) (S ++ [.dk (mergeW [] kws)]) := by
  have inj : ∀ {a b : List (Key × W)}, a.map pairW = b.map pairW → a = b := by
    intro a
    induction a with
    | nil => intro b e; cases b with | nil => rfl | cons _ _ => cases e
    | cons p a ih =>
      intro b e
      cases b with
      | nil => cases e
      | cons q b =>
        rw [List.map_cons, List.map_cons] at e
        have e1 := (List.cons.inj e).1
        have e2 := ih (List.cons.inj e).2
        obtain ⟨k, w⟩ := p
        obtain ⟨k2, w2⟩ := q
        have e3 : W.tup [wK k, w] = W.tup [wK k2, w2] := e1
        have e4 := (List.cons.inj (W.tup.inj e3)).1
        have e5 := (List.cons.inj (List.cons.inj (W.tup.inj e3)).2).1
        have e6 : k = k2 := by
          have z := congrArg keyW e4
          rw [keyW_wK, keyW_wK] at z
          exact Option.some.inj z
        rw [e2, e5, e6]
  show ((∃ kws, S[i]? = some (.lst (kws.map pairW)) ∧ Q (.ref S.length) (S ++ [.dk (mergeW [] kws)])) ∨ ∃ kvs, S[i]? = some (.dk kvs) ∧ Q (.ref S.length) (S ++ [.dk kvs])) = _
  refine propext ⟨fun o => ?_, fun q => .inl ⟨kws, h, q⟩⟩
  rcases o with ⟨kws', e, q⟩ | ⟨kvs, e, _⟩
  · rw [h] at e
    have e2 := inj (O.lst.inj (Option.some.inj e))
    rw [e2]
    exact q
  · rw [h] at e
    cases e
theorem e_dictD {kvs : List (Key × W)} (h : S[i]? = some (.dk kvs)) : vDict [.ref i] S Q = Q (.ref S.length) (S ++ [.dk kvs]) := by
  show ((∃ kws, S[i]? = some (.lst (kws.map pairW)) ∧ Q (.ref S.length) (S ++ [.dk (mergeW [] kws)])) ∨ ∃ kvs, S[i]? = some (.dk kvs) ∧ Q (.ref S.length) (S ++ [.dk kvs])) = _
  refine propext ⟨fun o => ?_, fun q => .inr ⟨kvs, h, q⟩⟩
  rcases o with ⟨kws', e, q⟩ | ⟨kvs', e, q⟩
  · rw [h] at e
    cases e
  · rw [h] at e
    cases e
    exact q
variable {da : DA} {env : Slots} {QI : List W → (Sto → Prop) → Sto → Prop}
theorem e_enum : iEnumerate da env S QI = da env S fun us S1 => match us with
  | [w] => vSeqI w S1 fun ws still => QI (enumW ws) still
  | _ => False := rfl
end
/-! ### comprehensions whose target is a tuple -/
section
variable {X : Cx} {pos : Pos}
theorem xe_compT {elt iter : Expr} {es : List Expr} {kt n : Nat} {tpos : Pos} {ifs : List Expr} {scope : Scope} {di : DI} {ts : TGs} {gs : DGs} {dt : DT} {de : DE} (own : List (Str × Nat)) (hc : X.calm = true) (hN : X.N.Nodup) (hi : XI X (.Tuple es kt tpos) iter di) (ok : BlkOk X.N X.env.scope scope own)
    (hg : ∀ (s : Shared) (H : Hp) (C : Addr) (cl : List (Str × Addr)) (fp : List Addr), XCGs (X.blk s H scope (compEnvC scope cl C X.env) fp) (own.map (·.2)) es ts gs)
    (ht : ∀ (s : Shared) (H : Hp) (C : Addr) (cl : List (Str × Addr)) (fp : List Addr), XTs (X.blk s H scope (compEnvC scope cl C X.env) fp) ifs dt)
    (he : ∀ (s : Shared) (H : Hp) (C : Addr) (cl : List (Str × Addr)) (fp : List Addr), XE (X.blk s H scope (compEnvC scope cl C X.env) fp) elt de)
    (hn : ∀ env, (assignEach es env).length = n := by intro _; rfl) (hst : ∀ env, (assignEach es env).findIdx? (·.1) = none := by intro _; rfl)
    (hs : ∀ x, foldedSetIterable iter X.env x = pure x := by intro _; rfl) : XE X (.ListComp elt [⟨.Tuple es kt tpos, iter, ifs, 0⟩] scope pos) (dComp di (gTp n gs) dt de (own.map (·.2))) :=
  xe_comp (t := gTup X.K n ts) own hc hN hi ok (fun s H C cl fp => xcg_tup (X := X.blk s H scope (compEnvC scope cl C X.env) fp) hc (hg s H C cl fp) (hn _) (hst _)) ht he hs
theorem xs_setCompT {y : Str} {py spos : Pos} {elt iter : Expr} {es : List Expr} {kt n : Nat} {tpos : Pos} {ifs : List Expr} {scope : Scope} {di : DI} {ts : TGs} {gs : DGs} {dt : DT} {de : DE} (i : Nat) (own : List (Str × Nat)) (hc : X.calm = true) (hN : X.N.Nodup) (hi : XI X (.Tuple es kt tpos) iter di) (ok : BlkOk X.N X.env.scope scope own)
    (hg : ∀ (s : Shared) (H : Hp) (C : Addr) (cl : List (Str × Addr)) (fp : List Addr), XCGs (X.blk s H scope (compEnvC scope cl C X.env) fp) (own.map (·.2)) es ts gs)
    (ht : ∀ (s : Shared) (H : Hp) (C : Addr) (cl : List (Str × Addr)) (fp : List Addr), XTs (X.blk s H scope (compEnvC scope cl C X.env) fp) ifs dt)
    (he : ∀ (s : Shared) (H : Hp) (C : Addr) (cl : List (Str × Addr)) (fp : List Addr), XE (X.blk s H scope (compEnvC scope cl C X.env) fp) elt de)
    (hsw : swapsWith (.ListComp elt [⟨.Tuple es kt tpos, iter, ifs, 0⟩] scope pos) (some (.Name y py)) spos.line X.env = pure true)
    (hn : ∀ env, (assignEach es env).length = n := by intro _; rfl) (hst : ∀ env, (assignEach es env).findIdx? (·.1) = none := by intro _; rfl)
    (hy : X.N[i]? = some y := by rfl) (hyl : X.env.scope.names.lookup y = some .local := by rfl) (hs : ∀ x, foldedSetIterable iter X.env x = pure x := by intro _; rfl) :
    XS X (.Assign [.Name y py] (.ListComp elt [⟨.Tuple es kt tpos, iter, ifs, 0⟩] scope pos) spos) (dAsg (dComp di (gTp n gs) dt de (own.map (·.2))) (gNm i)) :=
  xs_setComp (t := gTup X.K n ts) i own hc hN hi ok (fun s H C cl fp => xcg_tup (X := X.blk s H scope (compEnvC scope cl C X.env) fp) hc (hg s H C cl fp) (hn _) (hst _)) ht he hsw hy hyl hs
end
/-! ### len, any size -/
def vLenD (xs : List W) (S : Sto) (Q : WK) : Prop := match xs with
  | [.ref p] => ∃ kvs, S[p]? = some (.dk kvs) ∧ Q (.int kvs.length) S
  | _ => False
theorem lenD_sim {K : Fg} : SimC K (fun xs H Q => ∃ a kvs, xs = [V.ref a] ∧ H a = some (.dK kvs) ∧ Q (.int kvs.length) H) vLenD := by
  intro r H S xs ws Q Q0 R l d k
  cases l with
  | nil => exact d.elim
  | cons p l =>
    cases l with
    | cons p' l' => cases p <;> exact d.elim
    | nil =>
      cases p <;> try exact d.elim
      rename_i a j h
      obtain ⟨kvs, h0, q⟩ := d
      obtain ⟨vs, h3, l⟩ := R.obj j _ _ h h0
      exact ⟨a, vs, rfl, h3, by rw [kv_len l]; exact k r H S _ _ .refl R (.int _) q⟩
def vLenA (xs : List W) (S : Sto) (Q : WK) : Prop := vLen xs S Q ∨ vLenD xs S Q
section
variable {X : Cx} {e : Expr} {es : List Expr} {dA : DA} {pos p : Pos}
theorem c_lenA (hg : Gl X "len") (hm : X.mg "len" = none) (ha : XA X (e :: es) dA) (he : starEach (e :: es) X.env = (false, eval e X.env) :: starEach es X.env := by rfl) (hpl : (backTo pos (starEach es X.env)).any (·.1) = false := by rfl) : XE X (.Call (.Name "len" p) (e :: es) [] pos) (dCB vLenA dA) :=
  xe_callB (CallR.or call_len call_lenD) (SimC.or len_sim lenD_sim) hg hm PySem.boot_len ha (by decide) (by decide) he hpl
end
section
variable {S : Sto} {Q : WK} {i : Nat}
theorem e_lenAS {z : Str} : vLenA [.str z] S Q = (z.length ≤ sizeLine ∧ Q (.int z.length) S) := by
  unfold vLenA
  rw [or_false_r (show ¬ vLenD [.str z] S Q from fun x => x), e_lenS]
theorem e_lenAT {ws : List W} : vLenA [.tup ws] S Q = Q (.int ws.length) S := by
  unfold vLenA
  rw [or_false_r (show ¬ vLenD [.tup ws] S Q from fun x => x), e_lenT]
theorem e_lenALit {ws : List W} : vLenA [.lit ws] S Q = Q (.int ws.length) S := by
  unfold vLenA
  rw [or_false_r (show ¬ vLenD [.lit ws] S Q from fun x => x), e_lenLit]
theorem e_lenAL {ws : List W} (h : S[i]? = some (.lst ws)) : vLenA [.ref i] S Q = Q (.int ws.length) S := by
  unfold vLenA
  rw [or_false_r (fun ⟨kvs, e, _⟩ => by rw [h] at e; cases e), e_lenL h]
theorem e_lenAD {kvs : List (Key × W)} (h : S[i]? = some (.dk kvs)) : vLenA [.ref i] S Q = Q (.int kvs.length) S := by
  unfold vLenA
  have no : ¬ vLen [.ref i] S Q := fun ⟨ws, e, _⟩ => by
    have e' : (match S[i]? with | some (.lst ws) => some ws | _ => none) = some ws := e
    rw [h] at e'
    cases e'
  rw [or_false_l no]
  show (∃ kvs, S[i]? = some (.dk kvs) ∧ Q (.int kvs.length) S) = _
  exact propext ⟨fun ⟨kvs', e, q⟩ => by rw [h] at e; cases e; exact q, fun q => ⟨kvs, h, q⟩⟩
end
/-! ### keys -/
theorem putW_new {kvs : List (Key × W)} {k : Key} {w : W} (h : valW kvs k = none) : putW kvs k w = kvs ++ [(k, w)] := by
  unfold putW
  rw [if_neg]
  intro a
  obtain ⟨p, hp, e⟩ := List.any_eq_true.mp a
  unfold valW at h
  have h2 := List.find?_eq_none.mp (Option.map_eq_none_iff.mp h) p hp
  exact h2 e
theorem valW_map {α : Type} {f : α → W} {g : α → Str} {x : Str} : ∀ {xs : List α}, (∀ a ∈ xs, ∀ b ∈ xs, g a = g b → a = b) → ∀ {a : α}, a ∈ xs → g a = x → valW (xs.map fun a => (Sum.inr (g a), f a)) (.inr x) = some (f a)
  | [], _, a, h, _ => by cases h
  | b :: xs, inj, a, h, e => by
    unfold valW
    rw [List.map_cons, List.find?_cons]
    by_cases hb : g b = x
    · have eab : b = a := inj b (List.mem_cons_self ..) a h (hb.trans e.symm)
      subst eab
      simp [hb]
    · have hne : decide ((Sum.inr (g b), f b).1 = (Sum.inr x : Key)) = false := by simp [hb]
      rw [hne]
      have hm : a ∈ xs := by
        rcases List.mem_cons.mp h with rfl | h
        · exact absurd e hb
        · exact h
      exact valW_map (fun c hc d hd => inj c (List.mem_cons_of_mem _ hc) d (List.mem_cons_of_mem _ hd)) hm e
theorem valW_none {α : Type} {f : α → W} {g : α → Str} {x : Str} : ∀ {xs : List α}, (∀ a ∈ xs, g a ≠ x) → valW (xs.map fun a => (Sum.inr (g a), f a)) (.inr x) = none
  | [], _ => rfl
  | b :: xs, h => by
    unfold valW
    rw [List.map_cons, List.find?_cons]
    have hne : decide ((Sum.inr (g b), f b).1 = (Sum.inr x : Key)) = false := by simp [h b (List.mem_cons_self ..)]
    rw [hne]
    exact valW_none fun a ha => h a (List.mem_cons_of_mem _ ha)
end DL

/-! DLj: what the laws' proofs share: the drawing state, ranges, lists of texts, sorted texts. -/
namespace DL
open PySem PySem.Spec PyProof.Rows L2
theorem sz0 : (0 ≤ sizeLine) = True := eq_true (Nat.zero_le _)
theorem sz1 : (1 ≤ sizeLine) = True := eq_true (by decide)
theorem sz2 : (2 ≤ sizeLine) = True := eq_true (by decide)
theorem sz3 : (3 ≤ sizeLine) = True := eq_true (by decide)
theorem sz4 : (4 ≤ sizeLine) = True := eq_true (by decide)
theorem sz5 : (5 ≤ sizeLine) = True := eq_true (by decide)
theorem sz6 : (6 ≤ sizeLine) = True := eq_true (by decide)
theorem le_sz {n : Nat} (h : n ≤ 99999) : n ≤ sizeLine := Nat.le_trans h (by decide)
theorem lt_sz {n : Nat} (h : n ≤ 99998) : n < sizeLine := Nat.lt_of_le_of_lt h (by decide)
abbrev stro (xs : List Str) : O := .lst (xs.map W.str)
structure Dr where
  cells : List Int
  seed : Int
/-- the drawing state: a list of cells, and the pair of it and a number, at 1 -/
abbrev B (st : Dr) (R : Sto) : Sto := .lst (st.cells.map W.int) :: .lst [.ref 0, .int st.seed] :: R
theorem closed_B {st st' : Dr} {R : Sto} (h : Closed (B st R)) : Closed (B st' R) := by
  rw [closed_iff] at h ⊢
  intro o ho
  rcases List.mem_cons.mp ho with rfl | ho
  · exact bndL_ints _ _
  · rcases List.mem_cons.mp ho with rfl | ho
    · show (decide (0 < R.length + 1 + 1) && (true && true)) = true
      simp
    · exact h o (List.mem_cons_of_mem _ (List.mem_cons_of_mem _ ho))
theorem endB {st st' : Dr} {R : Sto} {Q : WK} {w : W} (cl : Closed (B st R)) (hp : w.pure = true) (q : Q w (B st' R)) : Ends0 (R.length + 1 + 1) Q w (B st' R) :=
  Ends0.keep (Nat.le_refl _) (closed_B cl) (pure_bnd _ _ hp) q
theorem endBT {st st' : Dr} {R : Sto} {Q : WK} {w : W} (T : Sto) (cl : Closed (B st R)) (hp : w.pure = true) (q : Q w (B st' R)) : Ends0 (R.length + 1 + 1) Q w (B st' (R ++ T)) :=
  Ends0.drop (S0 := B st' R) T (Nat.le_refl _) (closed_B cl) (pure_bnd _ _ hp) q
theorem closed_BR {st : Dr} {R : Sto} (h : ∀ o ∈ R, o.bnd (R.length + 1 + 1) = true) : Closed (B st R) := by
  rw [closed_iff]
  intro o ho
  rcases List.mem_cons.mp ho with rfl | ho
  · exact bndL_ints _ _
  · rcases List.mem_cons.mp ho with rfl | ho
    · show (decide (0 < R.length + 1 + 1) && (true && true)) = true
      simp
    · exact h o ho
theorem closed_set {st st' : Dr} {R : Sto} {j : Nat} {o : O} (h : Closed (B st R)) (ho : o.bnd (R.length + 1 + 1) = true) : Closed (B st' (R.set j o)) := by
  have h' := closed_B (st' := st') h
  rw [closed_iff] at h' ⊢
  intro x hx
  have e : (B st' (R.set j o)).length = (B st' R).length := by simp
  rw [e]
  rcases List.mem_cons.mp hx with rfl | hx
  · exact h' _ (List.mem_cons_self ..)
  · rcases List.mem_cons.mp hx with rfl | hx
    · exact h' _ (List.mem_cons_of_mem _ (List.mem_cons_self ..))
    · rcases List.mem_or_eq_of_mem_set hx with hx | rfl
      · exact h' _ (List.mem_cons_of_mem _ (List.mem_cons_of_mem _ hx))
      · exact ho
theorem rng_get {n i : Nat} {x : W} (h : (rngW 0 n)[i]? = some x) : i < n ∧ x = .int (i : Int) := by
  unfold rngW at h
  rw [List.getElem?_map] at h
  by_cases hi : i < n
  · rw [List.getElem?_range hi] at h
    refine ⟨hi, ?_⟩
    have := Option.some.inj h
    rw [← this]
    simp
  · rw [List.getElem?_eq_none (by simpa using hi)] at h
    cases h
theorem rng_len {lo : Int} {n : Nat} : (rngW lo n).length = n := by
  unfold rngW
  rw [List.length_map, List.length_range]
theorem map_get {α : Type} {f : α → W} {xs : List α} {i : Nat} {x : W} (h : (xs.map f)[i]? = some x) : ∃ a, xs[i]? = some a ∧ x = f a ∧ a ∈ xs ∧ i < xs.length := by
  rw [List.getElem?_map] at h
  obtain ⟨a, h1, h2⟩ := Option.map_eq_some_iff.mp h
  exact ⟨a, h1, h2.symm, List.mem_of_getElem? h1, (List.getElem?_eq_some_iff.mp h1).1⟩
theorem at_map {α : Type} {f : α → W} {xs : List α} {r : Int} (h0 : 0 ≤ r) (h1 : r < xs.length) : ∃ x, x ∈ xs ∧ xs[r.toNat]? = some x ∧ atI (xs.map f) r = some (f x) := by
  have hl : r.toNat < xs.length := by omega
  refine ⟨xs[r.toNat], List.getElem_mem hl, List.getElem?_eq_getElem hl, ?_⟩
  have e : r = ((r.toNat : Nat) : Int) := by omega
  exact (congrArg (atI (xs.map f)) e).trans (atI_nat (by rw [List.getElem?_map]; simp [hl]))
theorem flW_strs (xs : List Str) : (xs.map W.str).all flW = true := by
  rw [List.all_map]
  exact List.all_eq_true.mpr fun _ _ => rfl
theorem inW_strs (x : Str) : ∀ xs : List Str, inW (.str x) (xs.map W.str) = decide (x ∈ xs)
  | [] => rfl
  | y :: ys => by
    show (eqW (.str y) (.str x) || inW (.str x) (ys.map W.str)) = _
    rw [inW_strs x ys]
    show ((y == x) || decide (x ∈ ys)) = decide (x ∈ y :: ys)
    by_cases h : y = x
    · subst h
      simp
    · have h2 : ¬ x = y := fun e => h e.symm
      simp [h, h2]
theorem pop1_ok {S : Sto} {Q : WK} {i j : Nat} {zs : List W} {n : Int} {y : W} (h : S[i]? = some (.lst zs)) (e : n = (j : Int)) (hy : zs[j]? = some y) (hl : zs.length ≤ 99999) (q : Q y (S.set i (.lst (zs.eraseIdx j)))) : vPop1 (.ref i) [.int n] S Q := by
  have hj := (List.getElem?_eq_some_iff.mp hy).1
  subst e
  refine ⟨zs, j, y, h, ?_, ?_, ixN_nat hj, hy, q⟩
  · have : (0 : Int) ≤ (j : Int) := Int.natCast_nonneg _
    have h2 : -(2 ^ 63 : Int) ≤ 0 := by decide
    omega
  · have h2 : (99999 : Int) < 2 ^ 63 := by decide
    omega
/-! ### sorted texts -/
theorem alike_strs (xs : List Str) : PySem.W.AllAlike ((xs.map W.str).map datW) := by
  intro x hx y hy
  rw [List.map_map] at hx hy
  obtain ⟨a, _, rfl⟩ := List.mem_map.mp hx
  obtain ⟨b, _, rfl⟩ := List.mem_map.mp hy
  rfl
theorem sortable_strs (xs : List Str) : PySem.W.Sortable ((xs.map W.str).map datW) := by
  refine .inr fun x hx => ?_
  rw [List.map_map] at hx
  obtain ⟨a, _, rfl⟩ := List.mem_map.mp hx
  show PyData.str a ≠ .none ∧ ∀ ys, PyData.str a ≠ .tuple ys
  exact ⟨by simp, by simp⟩
theorem depth_strs (xs : List Str) : ∀ w ∈ xs.map W.str, (datW w).depth ≤ 60 := by
  intro w hw
  obtain ⟨a, _, rfl⟩ := List.mem_map.mp hw
  show (PyData.str a).depth ≤ 60
  simp only [PyData.depth]
  decide
def strLe (a b : Str) : Bool := leW (.str a) (.str b)
theorem sorted_strs (xs : List Str) : (xs.map W.str).mergeSort leW = (xs.mergeSort strLe).map W.str :=
  (List.map_mergeSort (r := strLe) (s := leW) (f := W.str) (l := xs) fun _ _ _ _ => rfl).symm
theorem sorted_strs_ok {S : Sto} {Q : WK} {i : Nat} {xs : List Str} (h : S[i]? = some (stro xs)) (q : Q (.ref S.length) (S ++ [stro (xs.mergeSort strLe)])) : vSorted [.ref i] S Q := by
  refine ⟨xs.map W.str, h, pureL_strs xs, alike_strs xs, sortable_strs xs, depth_strs xs, ?_⟩
  rw [sorted_strs]
  exact q
end DL

/-! DLk: membership of any data in a list. -/
namespace DL
open PySem PySem.Spec PyProof.Rows L2
def vInP (neg : Bool) (x y : W) (S : Sto) (Q : WK) : Prop := match y with
  | .ref p => ∃ ws, S[p]? = some (.lst ws) ∧ x.pure = true ∧ W.pureL ws = true ∧ SeqAt.shaped (datW x) = true ∧ SeqAt.shaped (.list (datWs ws)) = true ∧ Q (.bl (neg ^^ (datWs ws).any fun z => PyData.eqv z (datW x))) S
  | _ => False
theorem dp_list {K : Fg} {r : List Addr} {H : Hp} {a : Addr} {vs : List V} {ws : List W} (h : H a = some (.lst vs)) (l : RepL K r H vs ws) (p : W.pureL ws = true) : Dp K H (.ref a) (.list (datWs ws)) := .lst (.of h) (dpL_of l p)
theorem inP_sim {K : Fg} : SimR K (rInD K) (vInP false) := by
  intro r H S x y wx wy Q Q0 R px py d k
  cases py <;> try exact d.elim
  rename_i a j h
  obtain ⟨ws, h0, p1, p2, s1, s2, q⟩ := d
  obtain ⟨vs, h3, l⟩ := R.obj j _ _ h h0
  rw [Bool.false_xor] at q
  exact ⟨_, _, dp_of px p1, dp_list h3 l p2, s1, s2, k r H S _ _ .refl R (.bl _) q⟩
theorem notinP_sim {K : Fg} : SimR K (rNotInD K) (vInP true) := by
  intro r H S x y wx wy Q Q0 R px py d k
  cases py <;> try exact d.elim
  rename_i a j h
  obtain ⟨ws, h0, p1, p2, s1, s2, q⟩ := d
  obtain ⟨vs, h3, l⟩ := R.obj j _ _ h h0
  rw [Bool.true_xor] at q
  exact ⟨_, _, dp_of px p1, dp_list h3 l p2, s1, s2, k r H S _ _ .refl R (.bl _) q⟩
section
variable {X : Cx} {a b : Expr} {da db : DE} {pos : Pos} {k : Nat}
theorem u65 (hr : Room k X.A) : X.A.units + 65 < cLine := by have := hr.un; omega
theorem x_inP (hr : Room k X.A) (ha : XE X a da) (hb : XE X b db) (hm : behindInMarks .In b = false := by rfl) : XE X (.Compare a [.In] [b] pos) (dOp (vInP false) da db) := xe_cmp (op_inD (u65 hr)) inP_sim ha hb hm
theorem x_notinP (hr : Room k X.A) (ha : XE X a da) (hb : XE X b db) (hm : behindInMarks .NotIn b = false := by rfl) : XE X (.Compare a [.NotIn] [b] pos) (dOp (vInP true) da db) := xe_cmp (op_notInD (u65 hr)) notinP_sim ha hb hm
theorem t_inP (hr : Room k X.A) (ha : XE X a da) (hb : XE X b db) (hm : behindInMarks .In b = false := by rfl) : XT X (.Compare a [.In] [b] pos) (dB (dOp (vInP false) da db)) := xt_cmp (op_inD (u65 hr)) inP_sim ha hb hm
theorem t_notinP (hr : Room k X.A) (ha : XE X a da) (hb : XE X b db) (hm : behindInMarks .NotIn b = false := by rfl) : XT X (.Compare a [.NotIn] [b] pos) (dB (dOp (vInP true) da db)) := xt_cmp (op_notInD (u65 hr)) notinP_sim ha hb hm
end
/-! ### tuples of texts -/
abbrev tupS (xs : List Str) : W := .tup (xs.map W.str)
theorem dat_strs : ∀ xs : List Str, datWs (xs.map W.str) = xs.map PyData.str
  | [] => rfl
  | x :: xs => by
    show PyData.str x :: datWs (xs.map W.str) = _
    rw [dat_strs xs]
    rfl
theorem lay_strs : ∀ xs : List Str, (∀ x ∈ xs, PyData.strOk x = true) → PyData.canLayAll0 (xs.map PyData.str) = true
  | [], _ => by simp [PyData.canLayAll0]
  | x :: xs, h => by
    have h1 := h x (List.mem_cons_self ..)
    have h2 := lay_strs xs fun y hy => h y (List.mem_cons_of_mem _ hy)
    simp [PyData.canLayAll0, PyData.canLay0, h1, h2]
theorem dep_strs : ∀ xs : List Str, PyData.depthAll (xs.map PyData.str) = 0
  | [] => by simp [PyData.depthAll]
  | x :: xs => by simp [PyData.depthAll, PyData.depth, dep_strs xs]
theorem shaped_tupS {xs : List Str} (h : ∀ x ∈ xs, PyData.strOk x = true) : SeqAt.shaped (datW (tupS xs)) = true := by
  show SeqAt.shaped (.tuple (datWs (xs.map W.str))) = true
  rw [dat_strs]
  simp [SeqAt.shaped, PyData.canLay0, PyData.depth, lay_strs xs h, dep_strs]
theorem dat_tups : ∀ xss : List (List Str), datWs (xss.map tupS) = xss.map fun xs => PyData.tuple (xs.map PyData.str)
  | [] => rfl
  | xs :: xss => by
    show PyData.tuple (datWs (xs.map W.str)) :: datWs (xss.map tupS) = _
    rw [dat_strs, dat_tups xss]
    rfl
theorem lay_tups : ∀ xss : List (List Str), (∀ xs ∈ xss, ∀ x ∈ xs, PyData.strOk x = true) → PyData.canLayAll0 (xss.map fun xs => PyData.tuple (xs.map PyData.str)) = true
  | [], _ => by simp [PyData.canLayAll0]
  | xs :: xss, h => by
    have h1 := lay_strs xs (h xs (List.mem_cons_self ..))
    have h2 := lay_tups xss fun y hy => h y (List.mem_cons_of_mem _ hy)
    simp only [List.map_cons, PyData.canLayAll0, PyData.canLay0, h1, h2]
    rfl
theorem dep_tups : ∀ xss : List (List Str), PyData.depthAll (xss.map fun xs => PyData.tuple (xs.map PyData.str)) ≤ 1
  | [] => by simp [PyData.depthAll]
  | xs :: xss => by
    have h := dep_tups xss
    simp only [List.map_cons, PyData.depthAll, PyData.depth, dep_strs xs]
    omega
theorem shaped_tups {xss : List (List Str)} (h : ∀ xs ∈ xss, ∀ x ∈ xs, PyData.strOk x = true) : SeqAt.shaped (.list (datWs (xss.map tupS))) = true := by
  rw [dat_tups]
  have h1 := lay_tups xss h
  have h2 := dep_tups xss
  unfold SeqAt.shaped
  rw [Bool.and_eq_true, decide_eq_true_eq]
  refine ⟨by simpa only [PyData.canLay0] using h1, ?_⟩
  rw [PyData.depth]
  omega
theorem eqv_strs : ∀ xs ys : List Str, PyData.eqvAll (xs.map PyData.str) (ys.map PyData.str) = decide (xs = ys)
  | [], [] => by simp [PyData.eqvAll]
  | [], _ :: _ => by simp [PyData.eqvAll]
  | _ :: _, [] => by simp [PyData.eqvAll]
  | x :: xs, y :: ys => by
    simp only [List.map_cons, PyData.eqvAll, PyData.eqv, eqv_strs xs ys]
    by_cases h : x = y
    · subst h
      simp
    · simp [h]
theorem any_tups (x : List Str) : ∀ xss : List (List Str), ((datWs (xss.map tupS)).any fun z => PyData.eqv z (datW (tupS x))) = decide (x ∈ xss)
  | [] => rfl
  | xs :: xss => by
    have ih := any_tups x xss
    show (PyData.eqv (datW (tupS xs)) (datW (tupS x)) || _) = _
    rw [ih]
    have e : PyData.eqv (datW (tupS xs)) (datW (tupS x)) = decide (xs = x) := by
      show PyData.eqv (.tuple (datWs (xs.map W.str))) (.tuple (datWs (x.map W.str))) = _
      rw [dat_strs, dat_strs]
      simp only [PyData.eqv, eqv_strs]
    rw [e]
    by_cases h : xs = x
    · subst h
      simp
    · have h2 : ¬ x = xs := fun e => h e.symm
      simp [h, h2]
theorem pureL_tups (xss : List (List Str)) : W.pureL (xss.map tupS) = true := pureL_of fun w hw => by
  obtain ⟨xs, _, rfl⟩ := List.mem_map.mp hw
  exact pureL_strs xs
theorem inP_tups {S : Sto} {Q : WK} {i : Nat} {xss : List (List Str)} {x : List Str} (neg : Bool) (h : S[i]? = some (.lst (xss.map tupS))) (h1 : ∀ xs ∈ xss, ∀ x ∈ xs, PyData.strOk x = true) (h2 : ∀ y ∈ x, PyData.strOk y = true) (q : Q (.bl (neg ^^ decide (x ∈ xss))) S) :
    vInP neg (tupS x) (.ref i) S Q := by
  refine ⟨_, h, pureL_strs x, pureL_tups xss, shaped_tupS h2, shaped_tups h1, ?_⟩
  rw [any_tups]
  exact q
/-! ### not, of any value -/
def dNotU (da : DE) : DE := fun env S Q => da env S fun w S1 => vTru w S1 fun b => Q (.bl (!b)) S1
theorem xe_notU {X : Cx} {a : Expr} {da : DE} {pos : Pos} (ha : XE X a da) : XE X (.UnaryOp .Not a pos) (dNotU da) := by
  obtain ⟨t, p, s⟩ := ha.ex
  refine ⟨_, pe_notT p, fun r H S s' env Q Q0 R E g k => ?_⟩
  refine s r H S s' env _ _ R E g fun r1 H1 S1 v w e1 R1 q1 d1 => ?_
  obtain ⟨c, h1, h2⟩ := tru_sim R1 q1 d1
  exact ⟨c, h1, k r1 H1 S1 _ _ e1 R1 (.bl _) h2⟩
theorem e_notU {da : DE} {env : Slots} {S : Sto} {Q : WK} : dNotU da env S Q = da env S fun w S1 => vTru w S1 fun b => Q (.bl (!b)) S1 := rfl
theorem e_isI {n : Bool} {i : Int} {S : Sto} {Q : WK} : vIs n (.int i) .non S Q = Q (.bl n) S := rfl
theorem e_isS {n : Bool} {i : Str} {S : Sto} {Q : WK} : vIs n (.str i) .non S Q = Q (.bl n) S := rfl
theorem e_isT {n : Bool} {i : List W} {S : Sto} {Q : WK} : vIs n (.tup i) .non S Q = Q (.bl n) S := rfl
theorem e_isR {n : Bool} {i : Nat} {S : Sto} {Q : WK} : vIs n (.ref i) .non S Q = Q (.bl n) S := rfl
theorem e_isN {n : Bool} {S : Sto} {Q : WK} : vIs n .non .non S Q = Q (.bl (!n)) S := rfl
theorem atI_4 {α : Type} {x y z u v : α} {xs : List α} : atI (x :: y :: z :: u :: v :: xs) 4 = some v := atI_nat (j := 4) rfl
theorem atI_5 {α : Type} {x y z u v t : α} {xs : List α} : atI (x :: y :: z :: u :: v :: t :: xs) 5 = some t := atI_nat (j := 5) rfl
end DL

/-! DLs: sorting equal bags gives one list; sorted tuples of texts. -/
namespace DL
open PySem PySem.Spec PyProof.Rows L2
abbrev tk (w : W) : List (Int ⊕ List Nat) := PySem.W.keyToks (datW w)
theorem leW_kle (a b : W) : leW a b = true ↔ (listOrd itemOrd).kle (tk a) (tk b) := by
  show (!lexLt itemOrd (tk b) (tk a)) = true ↔ lexLt itemOrd (tk b) (tk a) = false
  cases lexLt itemOrd (tk b) (tk a) <;> simp
theorem sort_perm {α : Type} {enc : α → W} {A B : List α} (inj : ∀ a b, tk (enc a) = tk (enc b) → a = b) (h : A.Perm B) : A.mergeSort (fun a b => leW (enc a) (enc b)) = B.mergeSort (fun a b => leW (enc a) (enc b)) := by
  have tr : ∀ a b c : α, leW (enc a) (enc b) = true → leW (enc b) (enc c) = true → leW (enc a) (enc c) = true := fun a b c h1 h2 => by
    rw [leW_kle] at *
    exact KeyOrd.kle_trans h1 h2
  have tot : ∀ a b : α, (leW (enc a) (enc b) || leW (enc b) (enc a)) = true := fun a b => by
    rw [Bool.or_eq_true, leW_kle, leW_kle]
    unfold KeyOrd.kle
    cases e : (listOrd itemOrd).blt (tk (enc b)) (tk (enc a)) with
    | false => exact .inl rfl
    | true => exact .inr (KeyOrd.klt_asymm e)
  have s1 := List.pairwise_mergeSort tr tot A
  have s2 := List.pairwise_mergeSort tr tot B
  refine List.Perm.eq_of_pairwise (le := fun a b => leW (enc a) (enc b) = true) (fun a b _ _ h1 h2 => ?_) s1 s2 (((List.mergeSort_perm A _).trans h).trans (List.mergeSort_perm B _).symm)
  rw [leW_kle] at h1 h2
  exact inj a b (KeyOrd.kle_antisymm h1 h2)
theorem tk_str (x : Str) : tk (.str x) = [.inr x.cps.toList] := by
  show PySem.W.keyToks (.str x) = _
  simp only [PySem.W.keyToks]
theorem str_inj (a b : Str) (h : tk (.str a) = tk (.str b)) : a = b := by
  rw [tk_str, tk_str] at h
  exact PySem.W.str_of_cps (Sum.inr.inj (List.cons.inj h).1)
theorem toks_inj : ∀ xs ys : List Str, PySem.W.keyToksAll (xs.map PyData.str) = PySem.W.keyToksAll (ys.map PyData.str) → xs = ys
  | [], [], _ => rfl
  | [], y :: ys, h => by
    simp [PySem.W.keyToksAll] at h
  | x :: xs, [], h => by
    simp [PySem.W.keyToksAll] at h
  | x :: xs, y :: ys, h => by
    simp only [List.map_cons, PySem.W.keyToksAll, PySem.W.keyToks] at h
    have h2 := (List.cons.inj h).2
    have h3 := (List.cons.inj h2).1
    have h4 := (List.cons.inj h2).2
    rw [PySem.W.str_of_cps (Sum.inr.inj h3), toks_inj xs ys h4]
theorem tupS_inj (a b : List Str) (h : tk (tupS a) = tk (tupS b)) : a = b := by
  have e : ∀ a : List Str, tk (tupS a) = PySem.W.keyToksAll (a.map PyData.str) := fun a => by
    show PySem.W.keyToks (.tuple (datWs (a.map W.str))) = _
    rw [dat_strs]
    simp only [PySem.W.keyToks]
  rw [e, e] at h
  exact toks_inj a b h
theorem sort_strs_perm {A B : List Str} (h : A.Perm B) : A.mergeSort strLe = B.mergeSort strLe := sort_perm (enc := W.str) str_inj h
def tupLe (a b : List Str) : Bool := leW (tupS a) (tupS b)
theorem sort_tups_perm {A B : List (List Str)} (h : A.Perm B) : A.mergeSort tupLe = B.mergeSort tupLe := sort_perm (enc := tupS) tupS_inj h
theorem alike_strs2 : ∀ (a b : List Str), PySem.W.alikeAll (datWs (a.map W.str)) (datWs (b.map W.str)) = true
  | [], _ => by simp [datWs, PySem.W.alikeAll]
  | _ :: _, [] => by simp [datWs, PySem.W.alikeAll]
  | x :: a, y :: b => by
    have ih := alike_strs2 a b
    simp only [List.map_cons, datWs, PySem.W.alikeAll, ih]
    rfl
theorem sorted_tups_ok {S : Sto} {Q : WK} {i : Nat} {xss : List (List Str)} (h : S[i]? = some (.lst (xss.map tupS))) (hne : ∀ xs ∈ xss, xs ≠ []) (q : Q (.ref S.length) (S ++ [.lst ((xss.mergeSort tupLe).map tupS)])) : vSorted [.ref i] S Q := by
  refine ⟨xss.map tupS, h, pureL_tups xss, ?_, ?_, ?_, ?_⟩
  · intro x hx y hy
    rw [List.map_map] at hx hy
    obtain ⟨a, _, rfl⟩ := List.mem_map.mp hx
    obtain ⟨b, _, rfl⟩ := List.mem_map.mp hy
    show PySem.W.alike (.tuple (datWs (a.map W.str))) (.tuple (datWs (b.map W.str))) = true
    simp only [PySem.W.alike, alike_strs2]
  · refine .inl fun x hx => ?_
    rw [List.map_map] at hx
    obtain ⟨a, ha, rfl⟩ := List.mem_map.mp hx
    cases a with
    | nil => exact absurd rfl (hne [] ha)
    | cons z r => exact ⟨_, _, rfl⟩
  · intro w hw
    obtain ⟨a, _, rfl⟩ := List.mem_map.mp hw
    show (PyData.tuple (datWs (a.map W.str))).depth ≤ 60
    rw [dat_strs]
    simp only [PyData.depth, dep_strs]
    decide
  · have e : (xss.map tupS).mergeSort leW = (xss.mergeSort tupLe).map tupS :=
      (List.map_mergeSort (r := tupLe) (s := leW) (f := tupS) (l := xss) fun _ _ _ _ => rfl).symm
    rw [e]
    exact q
end DL

/-! DLt: sets whose members are tuples of any depth (fewer than 64), at the library's level. -/
namespace NS
open PySem PySem.Spec PyProof.Rows L2
section
variable {P : Program} {w : World} {A : Around} {E : Value → Shared → Prop}
mutual
theorem clsQ : ∀ (k : NestedKey) (v : Value) (n : Nat) (s : Shared) (Q : Bool → Shared → Prop), NestedIs s.heap k v → k.depth ≤ n → Q false s → wpAny (model P w) A (ofAClassStatement n v) Q E s
  | .none, _, n, s, Q, x, _, q => by cases x; cases n <;> exact wpAny_pure q
  | .num i, _, n, s, Q, x, _, q => by cases x <;> cases n <;> exact wpAny_pure q
  | .text y, _, n, s, Q, x, _, q => by cases x; cases n <;> exact wpAny_pure q
  | .tup ks, _, n, s, Q, x, hn, q => by
    cases x with
    | @tup b ob vs m _ hg hc hd hk =>
      simp only [NestedKey.depth] at hn
      cases n with
      | zero => omega
      | succ n =>
        have hT : s.TypeIs (.ref b) "tuple" := ⟨ob, hg, hc⟩
        unfold ofAClassStatement
        refine wpAny_bind (wpAny_typeOf hT ?_)
        dsimp only
        have e : (("tuple" : String) == "tuple") = true := by decide
        simp only [e, if_true, Bool.not_true, Bool.false_eq_true, if_false]
        try refine wpAny_bind (wpAny_pure ?_)
        try simp only [Bool.not_true, Bool.false_eq_true, if_false]
        refine wpAny_bind (wpAny_seqItems hg hd ?_)
        dsimp only
        refine wpAny_bind ?_
        rw [← Array.forIn_toList]
        refine wpAny_forIn_list _ (fun us r z => r.1 = none ∧ z = s ∧ ∃ js, NestedAll s.heap js us ∧ NestedKey.depthAll js ≤ n) _ ?_ ?_ _ _ ⟨rfl, rfl, ks, hk, by omega⟩
        · rintro v us r z ⟨hr, rfl, js, ha, hd2⟩
          cases ha with
          | @cons j _ js _ a1 a2 =>
            simp only [NestedKey.depthAll] at hd2
            refine wpAny_bind (clsQ j v n z _ a1 (by omega) ?_)
            simp only [Bool.false_eq_true, if_false]
            exact wpAny_pure ⟨rfl, rfl, js, a2, by omega⟩
        · rintro ⟨r1, r2⟩ z ⟨hr, rfl, _⟩
          simp only at hr
          subst hr
          exact wpAny_pure q
end
theorem hbvQ : ∀ (n : Nat) (k : NestedKey) (v : Value) (s : Shared) (Q : Bool → Shared → Prop), NestedIs s.heap k v → (∀ r, Q r s) → wpAny (model P w) A (hashByValue n v) Q E s
  | n, .none, _, s, Q, x, q => by cases x; cases n <;> exact wpAny_pure (q _)
  | n, .num i, _, s, Q, x, q => by cases x <;> cases n <;> exact wpAny_pure (q _)
  | n, .text y, _, s, Q, x, q => by cases x; cases n <;> exact wpAny_pure (q _)
  | 0, .tup ks, _, s, Q, x, q => by cases x; exact wpAny_pure (q _)
  | n + 1, .tup ks, _, s, Q, x, q => by
    cases x with
    | @tup b ob vs m _ hg hc hd hk =>
      have hT : s.TypeIs (.ref b) "tuple" := ⟨ob, hg, hc⟩
      unfold hashByValue
      refine wpAny_bind (wpAny_specialOf hT F.slot_tuple_hash.lookup ?_)
      refine wpAny_bind (wpAny_seqItems hg hd ?_)
      refine wpAny_bind ?_
      show wpAny _ _ (forIn vs _ _) _ _ s
      rw [← Array.forIn_toList]
      refine wpAny_forIn_list _ (fun us r z => r.1 = none ∧ z = s ∧ ∃ js, NestedAll s.heap js us) _ ?_ ?_ _ _ ⟨rfl, rfl, ks, hk⟩
      · rintro v us r z ⟨hr, rfl, js, ha⟩
        cases ha with
        | @cons j _ js _ a1 a2 =>
          refine wpAny_bind (hbvQ n j v z _ a1 fun c => ?_)
          cases c
          · simp only [Bool.not_false, if_true]
            exact wpAny_pure (wpAny_pure (q false))
          · simp only [Bool.not_true, Bool.false_eq_true, if_false]
            exact wpAny_pure ⟨rfl, rfl, js, a2⟩
      · rintro ⟨r1, r2⟩ z ⟨hr, rfl, _⟩
        simp only at hr
        subst hr
        exact wpAny_pure (q true)
/-- b is the tuple k, not too deep -/
abbrev NI (P : Program) (w : World) (h : Heap) (k : NestedKey) (b : Addr) : Prop := (nestedKind P w).is h k b
variable {s : Shared}
theorem seenQ {k : NestedKey} {b : Addr} {Q : Bool → Shared → Prop} (hk : NI P w s.heap k b) {ys : List Value} (hy : ∀ y ∈ ys, ∃ j c, y = Value.ref c ∧ NI P w s.heap j c) (q : Q false s) :
    wpAny (model P w) A (searchCouldBeSeen (.ref b) ys) Q E s := by
  unfold searchCouldBeSeen
  refine wpAny_bind ?_
  refine wpAny_forIn_list _ (fun us r z => r.1 = none ∧ z = s ∧ ∀ y ∈ us, ∃ j c, y = Value.ref c ∧ NI P w s.heap j c) _ ?_ ?_ _ _ ⟨rfl, rfl, hy⟩
  · rintro v us r z ⟨hr, rfl, all⟩
    obtain ⟨j, c, rfl, hc⟩ := all v List.mem_cons_self
    have more : ∀ y ∈ us, ∃ j c, y = Value.ref c ∧ NI P w z.heap j c := fun u hu => all u (List.mem_cons_of_mem _ hu)
    dsimp only
    by_cases hv : (b == c || (carriedByValue (.ref b) && carriedByValue (.ref c))) = true
    · exact wp_if_pos hv (wpAny_pure ⟨rfl, rfl, more⟩)
    · refine wp_if_neg hv (wpAny_bind ((nestedKind P w).quiet hk ?_))
      simp only [Bool.not_true, Bool.false_eq_true, if_false]
      refine wpAny_bind ((nestedKind P w).quiet hc ?_)
      simp only [Bool.not_true, Bool.false_eq_true, if_false]
      refine wpAny_bind (clsQ k _ 8 z _ hk.1 hk.2 ?_)
      simp only [Bool.false_eq_true, if_false]
      refine wpAny_bind (clsQ j _ 8 z _ hc.1 hc.2 ?_)
      simp only [Bool.false_eq_true, if_false]
      exact wpAny_pure ⟨rfl, rfl, more⟩
  · rintro ⟨r1, r2⟩ z ⟨hr, rfl, _⟩
    simp only at hr
    subst hr
    exact wpAny_pure q
end
end NS

/-! DLu: the search and the adding in a set of tuples. -/
namespace NS
open PySem PySem.Spec PyProof.Rows L2
section
variable (w : World)
/-- a member: where its tuple lies, which key it is -/
abbrev Mem := Addr × NestedKey
abbrev hN (k : NestedKey) : Int := k.hash w
def entries (M : List Mem) : List (Int × Value) := M.map fun m => (hN w m.2, Value.ref m.1)
abbrev hashesN (M : List Mem) : List Int := M.map fun m => hN w m.2
end
variable {P : Program} {w : World} {A : Around} {E : Value → Shared → Prop} {s : Shared}
structure SetN (P : Program) (w : World) (h : Heap) (a : Addr) (M : List Mem) (es : Array (Int × Value)) (ep : Nat) (t : SetTable) : Prop where
  here : ∃ o, h.get? a = some o ∧ o.ExactSet ∧ o.data = .set es ep t
  ents : es.toList = entries w M
  tab : TabOk t (hashesN w M)
  uni : (M.map (·.2)).Nodup
  mem : ∀ m ∈ M, NI P w h m.2 m.1
  led : w.params.followText "set-order" = true ∨ t.led = true
  room : M.length * 5 < t.mask * 3
  few : M.length < 64
variable {a : Addr} {M : List Mem} {es : Array (Int × Value)} {ep : Nat} {t : SetTable}
theorem entries_size {w : World} {M : List Mem} {es : Array (Int × Value)} (h : es.toList = entries w M) : es.size = M.length := by
  have e := congrArg List.length h
  unfold entries at e
  rwa [Array.length_toList, List.length_map] at e
theorem entry_at {w : World} {M : List Mem} {es : Array (Int × Value)} (h : es.toList = entries w M) {i : Nat} {m : Mem} (hm : M[i]? = some m) : es[i]? = some (hN w m.2, Value.ref m.1) := by
  rw [← Array.getElem?_toList, h]
  unfold entries
  rw [List.getElem?_map, hm]
  rfl
theorem fits_of {w : World} {M : List Mem} {es : Array (Int × Value)} {t : SetTable} (h : es.toList = entries w M) (T : TabOk t (hashesN w M)) (r : M.length ≤ t.mask) : t.fits es.size = true := by
  have z := T.sz
  rw [List.length_map] at z
  have z2 := entries_size h
  unfold SetTable.fits SetTable.fill
  rw [T.dm, Bool.and_eq_true, beq_iff_eq, decide_eq_true_eq]
  show t.place.size = es.size ∧ t.place.size + 0 ≤ t.mask
  omega
theorem SetN.fits (R : SetN P w s.heap a M es ep t) : t.fits es.size = true := fits_of R.ents R.tab (by have := R.room; omega)
/-- the probe, c steps on from the start for h -/
abbrev pr (m : Nat) (h : Int) (c : Nat) : SetTable.Probe := nth m (runAt m (SetTable.bits h % (m + 1)) (SetTable.bits h)) c
theorem pr_more (m : Nat) (h : Int) (c q : Nat) : nth m (pr m h c) q = pr m h (c + q) := (nth_add m c _ q).symm
theorem pr_clean (m : Nat) (h : Int) (c : Nat) : (pr m h c).dummy = none := by
  have go : ∀ (n : Nat) (p : SetTable.Probe), p.dummy = none → (nth m p n).dummy = none := by
    intro n
    induction n with
    | zero => intro p hp; exact hp
    | succ n ih =>
      intro p hp
      refine ih (adv m p) ?_
      unfold adv
      split <;> exact hp
  exact go c _ rfl
/-- looking for k: K is the first empty slot of its way -/
theorem findQ (R : SetN P w s.heap a M es ep t) {x : Addr} {k : NestedKey} (hx : NI P w s.heap k x) (hu : A.units + 8 < cLine) {K : Nat} (h1 : K < 10 * SetTable.turns t.mask)
    (h2 : way t.mask (hN w k) K ∉ t.place.toList) (h3 : ∀ c, c < K → way t.mask (hN w k) c ∈ t.place.toList) {Q : SetFound → Shared → Prop}
    (yes : k ∈ M.map (·.2) → Q (.there none) s) (no : k ∉ M.map (·.2) → Q (.free (way t.mask (hN w k) K) false) s) :
    ∀ (f c : Nat) (st : Option SetTable.Probe), st.getD (t.probeStart (hN w k)) = pr t.mask (hN w k) c → c ≤ K → K - c < f →
      (∀ (i : Nat) m, M[i]? = some m → m.2 = k → ∃ d, c ≤ d ∧ d < K ∧ t.place.toList[i]? = some (way t.mask (hN w k) d)) →
      wpAny (model P w) A (setSearchFrom a (.ref x) (hN w k) true f st) Q E s := by
  intro f
  induction f with
  | zero => intro c st _ _ hf; exact absurd hf (Nat.not_lt_zero _)
  | succ f ih =>
    intro c st hst hc hf hre
    obtain ⟨o, ho, hex, hd⟩ := R.here
    have gw : ¬ t.gaveWay = true := by
      unfold SetTable.gaveWay
      rw [mask_odd R.tab.mok]
      decide
    rw [setSearchFrom_succ]
    refine wpAny_bind (wpAny_setState_of ho hd R.fits ?_)
    dsimp only
    refine wp_if_neg gw ?_
    try refine wpAny_bind (wpAny_pure ?_)
    have ej : ∀ q, (nth t.mask (pr t.mask (hN w k) c) q).j = way t.mask (hN w k) (c + q) := fun q => congrArg SetTable.Probe.j (pr_more _ _ c q)
    have sp := go_spec t R.tab.ris R.tab.dm (fun i => (es[i]?.map (·.1)).getD 0) (hN w k) (10 * SetTable.turns t.mask) (K - c) _ (pr_clean t.mask (hN w k) c) (by omega)
      (fun q hq => by rw [ej]; exact h3 (c + q) (by omega)) (by rw [ej, show c + (K - c) = K by omega]; exact h2)
    have hat : ∀ (i : Nat) m, M[i]? = some m → (es[i]?.map (·.1)).getD 0 = hN w m.2 := fun i m hm => by
      rw [entry_at R.ents hm]
      rfl
    rcases sp with ⟨q, i, hq, hi, hh, hno, hp⟩ | ⟨hno, hp⟩
    · have hp2 : t.probe (fun i => (es[i]?.map (·.1)).getD 0) (hN w k) (st.getD (t.probeStart (hN w k))) = some (.candidate (way t.mask (hN w k) (c + q)) i (pr t.mask (hN w k) (c + (q + 1)))) := by
        rw [hst, ← ej, ← pr_more]
        exact hp
      rw [hp2]
      dsimp only
      rw [ej] at hi
      have hil : i < M.length := by
        have a1 := (List.getElem?_eq_some_iff.mp hi).1
        have a2 := R.tab.sz
        rw [List.length_map] at a2
        rw [Array.length_toList] at a1
        omega
      have hm : M[i]? = some M[i] := List.getElem?_eq_getElem hil
      generalize M[i] = m at hm
      have hmM : m ∈ M := List.mem_of_getElem? hm
      have onward : wpAny (model P w) A (searchRest a (.ref x) (hN w k) true f es t (way t.mask (hN w k) (c + q)) i (pr t.mask (hN w k) (c + (q + 1)))) Q E s := by
        unfold searchRest
        rw [entry_at R.ents hm]
        dsimp only
        refine wpAny_bind (wpAny_holding ((nestedKind P w).eqBool hu (R.mem m hmM) hx ?_))
        refine wpAny_bind (wpAny_setState_of ho hd R.fits ?_)
        dsimp only
        by_cases hkk : m.2 = k
        · refine wp_if_pos (by simp [hkk]) (wpAny_pure (yes ?_))
          exact List.mem_map.mpr ⟨m, hmM, hkk⟩
        · refine wp_if_neg (by simp [hkk]) ?_
          try refine wpAny_bind (wpAny_pure ?_)
          rw [sameMem]
          dsimp only
          have hsl : t.slot (way t.mask (hN w k) (c + q)) = .live i := slot_live R.tab.ris hi
          simp only [if_true, hsl, entry_at R.ents hm]
          refine wpAny_bind (wpAny_isSame_ref_self (wpAny_bind (wpAny_pure ?_)))
          simp only [if_true]
          refine wp_if_neg (by simp [hkk]) ?_
          refine ih (c + (q + 1)) _ rfl (by omega) (by omega) fun i0 m0 g0 e0 => ?_
          obtain ⟨d, d1, d2, d3⟩ := hre i0 m0 g0 e0
          refine ⟨d, ?_, d2, d3⟩
          rcases Nat.lt_trichotomy d (c + q) with z | z | z
          · refine absurd ((hat i0 m0 g0).trans (congrArg (hN w) e0)) (hno (d - c) i0 (by omega) ?_)
            rw [ej, show c + (d - c) = d by omega]
            exact d3
          · rw [z] at d3
            have s0 := slot_live R.tab.ris d3
            rw [hsl] at s0
            injection s0 with s0
            rw [← s0, hm] at g0
            exact absurd ((congrArg Prod.snd (Option.some.inj g0)).trans e0) hkk
          · omega
      by_cases hl : t.led = true
      · refine wp_if_neg (by simp [hl]) ?_
        try refine wpAny_bind (wpAny_pure ?_)
        exact onward
      · refine wp_if_pos (by simp [hl]) (wpAny_bind (seenQ hx (fun y hy => ?_) ?_))
        · obtain ⟨e, he, ee⟩ := List.mem_map.mp hy
          have he1 : e ∈ es ∧ e.1 = hN w k := by simpa using he
          have he2 : e ∈ es.toList := by simpa using he1.1
          rw [R.ents] at he2
          obtain ⟨m2, hm2, e2⟩ := List.mem_map.mp he2
          refine ⟨m2.2, m2.1, ?_, R.mem m2 hm2⟩
          rw [← ee, ← e2]
        · refine wp_if_neg (by decide) ?_
          try refine wpAny_bind (wpAny_pure ?_)
          exact onward
    · have hp2 : t.probe (fun i => (es[i]?.map (·.1)).getD 0) (hN w k) (st.getD (t.probeStart (hN w k))) = some (.empty (way t.mask (hN w k) K) none) := by
        have e2 : way t.mask (hN w k) K = (nth t.mask (pr t.mask (hN w k) c) (K - c)).j := by
          rw [ej, show c + (K - c) = K by omega]
        rw [hst, e2]
        exact hp
      rw [hp2]
      dsimp only
      refine wpAny_pure (no fun hm => ?_)
      obtain ⟨m0, g0, e0⟩ := List.mem_map.mp hm
      obtain ⟨i0, hi0⟩ := List.mem_iff_getElem?.mp g0
      obtain ⟨d, d1, d2, d3⟩ := hre i0 m0 hi0 e0
      refine absurd ((hat i0 m0 hi0).trans (congrArg (hN w) e0)) (hno (d - c) i0 (by omega) ?_)
      rw [ej, show c + (d - c) = d by omega]
      exact d3
theorem searchQ (R : SetN P w s.heap a M es ep t) {x : Addr} {k : NestedKey} (hx : NI P w s.heap k x) (hu : A.units + 8 < cLine) {Q : SetFound → Shared → Prop} (yes : k ∈ M.map (·.2) → Q (.there none) s)
    (no : ∀ K, k ∉ M.map (·.2) → way t.mask (hN w k) K ∉ t.place.toList → (∀ c, c < K → way t.mask (hN w k) c ∈ t.place.toList) → Q (.free (way t.mask (hN w k) K) false) s) :
    wpAny (model P w) A (setSearch a (.ref x) (hN w k) true) Q E s := by
  have room := R.room
  obtain ⟨K, h1, h2, h3⟩ := R.tab.first (by rw [List.length_map]; omega) (hN w k)
  have hK : K < 100000 := by
    have z : 10 * SetTable.turns t.mask ≤ 1420 := by
      unfold SetTable.turns
      rcases R.tab.mok with e | e | e <;> omega
    omega
  unfold setSearch
  refine findQ R hx hu h1 h2 h3 yes (fun n => no K n h2 h3) 100000 0 none rfl (Nat.zero_le _) (by omega) fun i m hm hk => ?_
  have hi : (hashesN w M)[i]? = some (hN w k) := by
    rw [List.getElem?_map, hm, ← hk]
    rfl
  have hil : i < t.place.toList.length := by
    have a1 := (List.getElem?_eq_some_iff.mp hm).1
    have a2 := R.tab.sz
    rw [List.length_map] at a2
    rw [Array.length_toList]
    omega
  have hj := List.getElem?_eq_getElem hil
  obtain ⟨c, hc, e⟩ := R.tab.before h2 hi hj
  exact ⟨c, Nat.zero_le _, hc, by rw [hj, e]⟩
end NS

/-! DLv: adding to a set of tuples. -/
namespace NS
open PySem PySem.Spec PyProof.Rows L2
variable {P : Program} {w : World} {A : Around} {E : Value → Shared → Prop} {s : Shared}
variable {a : Addr} {M : List Mem} {es : Array (Int × Value)} {ep : Nat} {t : SetTable}
/-- a change of a set leaves the tuples -/
theorem ni_set {h h' : Heap} {k : NestedKey} {b : Addr} {o : Obj} (x : NI P w h k b) (ho : h.get? a = some o) (hd : o.data = .set es ep t) (hs : Heap.SameBut a h h') : NI P w h' k b :=
  ⟨NestedIs.at (fun c ob vs n hb hc => (hs.2 c fun e => by
    subst e
    rw [ho] at hb
    cases hb
    rw [hd] at hc
    cases hc).trans hb) k _ x.1, x.2⟩
theorem ni_keep {h h' : Heap} {k : NestedKey} {b : Addr} (x : NI P w h k b) (hk : ∀ c o, h.get? c = some o → h'.get? c = some o) : NI P w h' k b :=
  ⟨NestedIs.at (fun c ob vs n hb _ => hk c ob hb) k _ x.1, x.2⟩
theorem SetN.keep {h h' : Heap} (R : SetN P w h a M es ep t) (ha : ∀ o, h.get? a = some o → h'.get? a = some o) (hm : ∀ m ∈ M, NI P w h' m.2 m.1) : SetN P w h' a M es ep t := by
  obtain ⟨o, ho, r⟩ := R.here
  exact ⟨⟨o, ha o ho, r⟩, R.ents, R.tab, R.uni, hm, R.led, R.room, R.few⟩
/-- the entries in another sequence -/
theorem entries_order {w : World} (order : Array Nat) (h : es.toList = entries w M) (hp : order.toList.Perm (List.range M.length)) :
    ∃ M2, (order.filterMap (es[·]?)).toList = entries w M2 ∧ M2.Perm M ∧ hashesN w M2 = order.toList.map fun i => (es.map (·.1)).getD i 0 := by
  have go : ∀ l : List Nat, (∀ i ∈ l, i < M.length) → l.filterMap (fun i => es[i]?) = entries w (l.filterMap fun i => M[i]?) ∧ hashesN w (l.filterMap fun i => M[i]?) = l.map fun i => (es.map (·.1)).getD i 0 := by
    intro l
    induction l with
    | nil => intro _; exact ⟨rfl, rfl⟩
    | cons i l ih =>
      intro hl
      have hi := hl i List.mem_cons_self
      have hm := List.getElem?_eq_getElem hi
      obtain ⟨e1, e2⟩ := ih fun j hj => hl j (List.mem_cons_of_mem _ hj)
      rw [List.filterMap_cons_some (entry_at h hm), List.filterMap_cons_some hm, e1]
      refine ⟨rfl, ?_⟩
      show hN w (M[i]).2 :: hashesN w _ = _
      rw [e2, List.map_cons]
      congr 1
      have e5 : (es.map (·.1))[i]? = some (hN w (M[i]).2) := by
        rw [Array.getElem?_map, entry_at h hm]
        rfl
      simp [Array.getD_eq_getD_getElem?, e5]
  obtain ⟨e1, e2⟩ := go order.toList fun i hi => List.mem_range.mp (hp.mem_iff.mp hi)
  refine ⟨_, by first | (rw [Array.toList_filterMap]; exact e1) | simpa using e1, ?_, e2⟩
  refine (hp.filterMap _).trans ?_
  have all : ∀ n, n ≤ M.length → (List.range n).filterMap (fun i => M[i]?) = M.take n := by
    intro n
    induction n with
    | zero => intro _; rfl
    | succ n ih =>
      intro hn
      rw [List.range_succ, List.filterMap_append, ih (Nat.le_of_lt hn), List.take_succ, List.getElem?_eq_getElem hn, List.filterMap_cons_some (List.getElem?_eq_getElem hn)]
      rfl
  rw [all _ (Nat.le_refl _), List.take_length]
/-- laying the table anew -/
theorem relayQ {o : Obj} (ho : s.heap.get? a = some o) (hex : o.ExactSet) (hd : o.data = .set es ep t) (ents : es.toList = entries w M) (T : TabOk t (hashesN w M)) (fit : M.length ≤ t.mask)
    (uni : (M.map (·.2)).Nodup) (mem : ∀ m ∈ M, NI P w s.heap m.2 m.1) (led : w.params.followText "set-order" = true ∨ t.led = true) (few : M.length < 64) {want N : Nat}
    (hw : SetTable.sizeAbove want - 1 = N) (hN : MaskOk N) (hw2 : SetTable.sizeAbove want ≤ 128) (hn : M.length * 5 < N * 3) {Q : Unit → Shared → Prop}
    (q : ∀ h' M' es' ep' t', Heap.SameBut a s.heap h' → SetN P w h' a M' es' ep' t' → M'.Perm M → Q () { s with heap := h' }) : wpAny (model P w) A (setRelay a want) Q E s := by
  have hsz := entries_size ents
  obtain ⟨t2, order, e, hp, T2, em, el, ep2, ed⟩ := relaid_ok t (hs := es.map (·.1)) (wanted := want) hw hN (by rw [Array.size_map, hsz]; omega)
  rw [Array.size_map, hsz] at hp
  obtain ⟨M2, r1, r2, r3⟩ := entries_order order ents hp
  rw [← r3] at T2
  have hs2 : (order.filterMap (es[·]?)).size = es.size := by
    rw [entries_size r1, r2.length_eq, hsz]
  rw [setRelay_eq]
  refine wpAny_bind (wpAny_setState_of ho hd (fits_of ents T fit) ?_)
  dsimp only
  refine wp_if_neg (by rw [sizeLine_eq]; omega) ?_
  try refine wpAny_bind (wpAny_pure ?_)
  rw [e]
  dsimp only
  refine wpAny_bind ?_
  refine wp_if_neg (by rw [hs2]; simp) ?_
  try refine wpAny_bind (wpAny_pure ?_)
  refine wpAny_pure ?_
  dsimp only
  refine wpAny_storeSet_of ho hd ?_ (by rw [hs2, hsz, sizeLine_eq]; omega)
  have sb : Heap.SameBut a s.heap (s.heap.update a (Obj.putSet (order.filterMap (es[·]?)) t2)) := Heap.SameBut.update ..
  refine q _ M2 _ (ep + 1) t2 sb ⟨⟨_, store_at ho hd, ⟨hex.1, hex.2.1, hex.2.2⟩, rfl⟩, r1, T2, (r2.map (·.2)).nodup_iff.mpr uni, fun m hm => ni_set (mem m (r2.mem_iff.mp hm)) ho hd sb, by rw [el]; exact led, ?_, by rw [r2.length_eq]; exact few⟩ r2
  rw [r2.length_eq, em]
  exact hn
/-- what the adding of k at x leaves -/
theorem addQ (R : SetN P w s.heap a M es ep t) {x : Addr} {k : NestedKey} (hx : NI P w s.heap k x) (hu : A.units + 8 < cLine) (few1 : M.length + 1 < 64) {Q : Bool → Shared → Prop}
    (q : ∀ b h' M' es' ep' t', Heap.SameBut a s.heap h' → SetN P w h' a M' es' ep' t' → (k ∈ M.map (·.2) → M' = M) → (k ∉ M.map (·.2) → M'.Perm ((x, k) :: M)) → Q b { s with heap := h' }) :
    wpAny (model P w) A (setAddHashed a (.ref x) (hN w k)) Q E s := by
  obtain ⟨o, ho, hex, hd⟩ := R.here
  have hsz := entries_size R.ents
  have room := R.room
  unfold setAddHashed
  refine wpAny_holding ?_
  rw [show (100000 : Nat) = 99999 + 1 from rfl, setAddHashedIn_succ]
  refine wpAny_bind (wpAny_setState_of ho hd R.fits ?_)
  dsimp only
  refine wp_if_neg (by simp [byScan, Value.scannable]) ?_
  try refine wpAny_bind (wpAny_pure ?_)
  refine wpAny_bind (searchQ R hx hu (fun hm => ?_) fun K hm hK hb => ?_)
  · dsimp only
    exact wpAny_pure (q false s.heap M es ep t (Heap.SameBut.refl a s.heap) R (fun _ => rfl) fun z => absurd hm z)
  dsimp only
  refine wpAny_bind (wpAny_setState_of ho hd R.fits ?_)
  dsimp only
  obtain ⟨q1, q2, q3, q4, q5, q6, q7, q8, q9⟩ := R.tab.put hK hb
  generalize t.put (way t.mask (hN w k) K) = pt at q1 q3 q4 q5 q6 q7 q8 q9 ⊢
  obtain ⟨t1, p⟩ := pt
  dsimp only at q1 q3 q4 q5 q6 q7 q8 q9 ⊢
  subst q1
  have hin : (SetTable.insertAt es (SetTable.below t.place (way t.mask (hN w k) K)) (hN w k, Value.ref x)).toList = entries w (M.take (SetTable.below t.place (way t.mask (hN w k) K)) ++ (x, k) :: M.drop (SetTable.below t.place (way t.mask (hN w k) K))) := by
    rw [SetTable.toList_insertAt, R.ents]
    unfold entries
    rw [List.map_append, List.map_cons, List.map_take, List.map_drop]
  generalize SetTable.below t.place (way t.mask (hN w k) K) = p at q2 q3 hin ⊢
  have pm := put_perm M p (x, k)
  have hhs : hashesN w (M.take p ++ (x, k) :: M.drop p) = (hashesN w M).take p ++ hN w k :: (hashesN w M).drop p := by
    show (M.take p ++ (x, k) :: M.drop p).map _ = _
    rw [List.map_append, List.map_cons, List.map_take, List.map_drop]
  rw [← hhs] at q3
  generalize M.take p ++ (x, k) :: M.drop p = M1 at pm q3 hin
  have hlen : M1.length = M.length + 1 := pm.length_eq
  have uni1 : (M1.map (·.2)).Nodup := (pm.map (·.2)).nodup_iff.mpr (List.nodup_cons.mpr ⟨hm, R.uni⟩)
  generalize SetTable.insertAt es p (hN w k, Value.ref x) = es1 at hin ⊢
  have hes := entries_size hin
  have lq : (hashesN w M).length = M.length := List.length_map ..
  have after : ∀ t3 : SetTable, TabOk t3 (hashesN w M1) → t3.mask = t.mask → t3.led = t.led → t3.fill = M.length + 1 →
      wpAny (model P w) A (storeSet a es1 t3 >>= fun _ => if (!false && t3.tooFull) = true then (setRelay a (SetTable.grown (es.size + 1)) >>= fun _ => pure true) else pure true) Q E s := by
    intro t3 T3 m3 l3 f3
    refine wpAny_bind (wpAny_storeSet_of ho hd ?_ (by rw [hes, hlen, sizeLine_eq]; omega))
    have sb : Heap.SameBut a s.heap (s.heap.update a (Obj.putSet es1 t3)) := Heap.SameBut.update ..
    have ho1 := store_at (es' := es1) (t' := t3) ho hd
    generalize s.heap.update a (Obj.putSet es1 t3) = h1 at sb ho1 ⊢
    have mem1 : ∀ m ∈ M1, NI P w h1 m.2 m.1 := fun m h => by
      rcases List.mem_cons.mp (pm.mem_iff.mp h) with e | h
      · rw [e]
        exact ni_set hx ho hd sb
      · exact ni_set (R.mem m h) ho hd sb
    have led1 : w.params.followText "set-order" = true ∨ t3.led = true := by rw [l3]; exact R.led
    by_cases hf : t3.tooFull = true
    · first
        | (refine wpAny_bind ?_; refine wp_if_pos (by simp [hf]) ?_)
        | (refine wp_if_pos (by simp [hf]) ?_; refine wpAny_bind ?_)
      have full : (M.length + 1) * 5 ≥ t3.mask * 3 := by
        have z := hf
        unfold SetTable.tooFull at z
        rwa [decide_eq_true_eq, f3] at z
      have two : (t.mask = 7 ∧ M.length = 4) ∨ (t.mask = 31 ∧ M.length = 18) := by
        rcases R.tab.mok with e | e | e
        · left; rw [m3, e] at full; rw [e] at room; exact ⟨e, by omega⟩
        · right; rw [m3, e] at full; rw [e] at room; exact ⟨e, by omega⟩
        · exfalso; rw [m3, e] at full; omega
      have go : ∀ N, SetTable.sizeAbove (SetTable.grown (es.size + 1)) - 1 = N → MaskOk N → SetTable.sizeAbove (SetTable.grown (es.size + 1)) ≤ 128 → (M.length + 1) * 5 < N * 3 →
          wpAny (model P w) A (setRelay a (SetTable.grown (es.size + 1))) (fun _ z => wpAny (model P w) A (pure true) Q E z) E { s with heap := h1 } := fun N g1 g2 g3 g4 => by
        refine relayQ (s := { s with heap := h1 }) ho1 ⟨hex.1, hex.2.1, hex.2.2⟩ rfl hin T3 (by rw [hlen, m3]; rcases two with ⟨e, e2⟩ | ⟨e, e2⟩ <;> omega) uni1 mem1 led1 (by rw [hlen]; exact few1) g1 g2 g3 (by rw [hlen]; exact g4) ?_
        intro h2 M2 es2 ep2 t2 sb2 R2 pm2
        exact wpAny_pure (q true h2 M2 es2 ep2 t2 (sb.trans sb2) R2 (fun z => absurd z hm) fun _ => pm2.trans pm)
      rcases two with ⟨_, e2⟩ | ⟨_, e2⟩
      · exact go 31 (by rw [hsz, e2, size_20]) (.inr (.inl rfl)) (by rw [hsz, e2, size_20]; decide) (by omega)
      · exact go 127 (by rw [hsz, e2, size_76]) (.inr (.inr rfl)) (by rw [hsz, e2, size_76]; decide) (by omega)
    · first
        | refine wp_if_neg (by simp [hf]) ?_
        | (refine wpAny_bind ?_; refine wp_if_neg (by simp [hf]) ?_; refine wpAny_pure ?_)
      refine wpAny_pure (q true h1 M1 es1 (ep + 1) t3 sb ⟨⟨_, ho1, ⟨hex.1, hex.2.1, hex.2.2⟩, rfl⟩, hin, T3, uni1, mem1, led1, ?_, by rw [hlen]; exact few1⟩ (fun z => absurd z hm) fun _ => pm)
      have z := hf
      unfold SetTable.tooFull at z
      rw [decide_eq_true_eq, f3] at z
      rw [hlen]
      omega
  by_cases hp : t1.plain = true
  · refine wp_if_pos hp (wpAny_bind (hbvQ 8 k _ s _ hx.1 fun r => ?_))
    cases r
    · exact after { t1 with plain := false } ⟨q3.ris, q3.dm, q3.sz, q3.mok, q3.bd, q3.reach⟩ q4 q5 (q9.trans (by rw [lq]))
    · exact after t1 q3 q4 q5 (q9.trans (by rw [lq]))
  · refine wp_if_neg hp (wpAny_bind (wpAny_pure ?_))
    exact after t1 q3 q4 q5 (q9.trans (by rw [lq]))
theorem freshQ {h : Heap} {a : Addr} (ho : h.get? a = some { cls := .type "set", dict := none, data := .set #[] 0 (.fresh 0 0 (!w.params.followText "set-order")) }) : SetN P w h a [] #[] 0 (.fresh 0 0 (!w.params.followText "set-order")) where
  here := ⟨_, ho, ⟨rfl, rfl, rfl⟩, rfl⟩
  ents := rfl
  tab := ⟨List.Pairwise.nil, rfl, rfl, .inl rfl, (by intro x hx; cases hx), (by intro i h j hi; simp at hi)⟩
  uni := List.nodup_nil
  mem := by intro m hm; cases hm
  led := by
    show _ ∨ (!w.params.followText "set-order") = true
    cases w.params.followText "set-order"
    · exact .inr rfl
    · exact .inl rfl
  room := by show 0 * 5 < 7 * 3; decide
  few := by show 0 < 64; decide
end NS

/-! DLW: set(xs) of a list, for any kind of members of which the adding is known. -/
namespace NS
open PySem PySem.Spec PyProof.Rows L2
abbrev newSet (w : World) : Obj := { cls := .type "set", dict := none, data := .set #[] 0 (.fresh 0 0 (!w.params.followText "set-order")) }
/-- a kind of members: what a member is in a heap, what it is for a set to hold some, how one more is taken in -/
structure SetKd (P : Program) (w : World) where
  μ : Type
  κ : Type
  key : μ → κ
  val : μ → Value
  Is : Heap → μ → Prop
  At : Heap → Addr → List μ → Prop
  keepI : ∀ {h h' : Heap} {m : μ}, Is h m → (∀ c o, h.get? c = some o → h'.get? c = some o) → Is h' m
  keepA : ∀ {h h' : Heap} {a : Addr} {M : List μ}, At h a M → (∀ o, h.get? a = some o → h'.get? a = some o) → (∀ m ∈ M, Is h' m) → At h' a M
  fresh : ∀ {h : Heap} {a : Addr}, h.get? a = some (newSet w) → At h a []
  add : ∀ {A : Around} {E : Value → Shared → Prop} {s : Shared} {a : Addr} {M : List μ} {m : μ} {Q : Bool → Shared → Prop}, At s.heap a M → Is s.heap m → A.units + 8 < cLine → M.length + 1 < 64 →
    (∀ b h' tk M', s.toks ≤ tk → Heap.SameBut a s.heap h' → At h' a M' → (key m ∈ M.map key → M' = M) → (key m ∉ M.map key → M'.Perm (m :: M)) → Q b { s with heap := h', toks := tk }) → wpAny (model P w) A (setAdd a (val m)) Q E s
variable {P : Program} {w : World} {A : Around} {E : Value → Shared → Prop} {s : Shared} {kd : SetKd P w}
/-- the set has the keys of the first i items -/
structure Has (kd : SetKd P w) (ks : List kd.μ) (i : Nat) (M : List kd.μ) : Prop where
  sub : ∀ m ∈ M, m ∈ ks.take i
  all : ∀ m ∈ ks.take i, kd.key m ∈ M.map kd.key
  len : M.length ≤ i
theorem Has.next {ks M M' : List kd.μ} {i : Nat} {x : kd.μ} (g : Has kd ks i M) (h : ks[i]? = some x) (c1 : kd.key x ∈ M.map kd.key → M' = M) (c2 : kd.key x ∉ M.map kd.key → M'.Perm (x :: M)) : Has kd ks (i + 1) M' := by
  have et : ks.take (i + 1) = ks.take i ++ [x] := take_next h
  rcases Classical.em (kd.key x ∈ M.map kd.key) with c | c
  · rw [c1 c]
    refine ⟨fun m hm => by rw [et]; exact List.mem_append_left _ (g.sub m hm), fun m hm => ?_, Nat.le_succ_of_le g.len⟩
    rw [et] at hm
    rcases List.mem_append.mp hm with hm | hm
    · exact g.all m hm
    · rw [List.mem_singleton.mp hm]
      exact c
  · have pm := c2 c
    refine ⟨fun m hm => ?_, fun m hm => ?_, by rw [pm.length_eq]; exact Nat.succ_le_succ g.len⟩
    · rw [et]
      rcases List.mem_cons.mp (pm.mem_iff.mp hm) with e | hm
      · rw [e]
        exact List.mem_append_right _ (List.mem_singleton.mpr rfl)
      · exact List.mem_append_left _ (g.sub m hm)
    · rw [et] at hm
      refine (pm.map kd.key).mem_iff.mpr ?_
      rcases List.mem_append.mp hm with hm | hm
      · exact List.mem_cons_of_mem _ (g.all m hm)
      · rw [List.mem_singleton.mp hm]
        exact List.mem_cons_self
/-- the loop that takes the items in -/
theorem takeIn {I : Addr} {fp wr : List Addr} {G : Array GenState → Array GenState → Prop} {n : Nat} {Pv : Nat → Value → Prop} {St : Nat → Shared → Prop} {R : Result → Shared → Prop}
    (W : WalksS P w A.in1 I fp wr G n Pv St) (S : Addr) (hSf : S ∉ fp) (kd : SetKd P w) (ks : List kd.μ) (hn : n = ks.length) (few : ks.length < 64) (val : ∀ i v, Pv i v → ∃ m, ks[i]? = some m ∧ v = kd.val m)
    (h0 : Heap) (hk : ∀ m ∈ ks, kd.Is h0 m) (hS0 : h0.get? S = none) (hw0 : ∀ b ∈ wr, h0.get? b = none) (hu : A.in1.units + 8 < cLine) :
    ∀ (k i : Nat) (s : Shared), n - i = k → i ≤ n → St i s → (∀ b o, h0.get? b = some o → s.heap.get? b = some o) → (∃ M, kd.At s.heap S M ∧ Has kd ks i M) →
      (∀ s' M, Moved (S :: wr) G s s' → kd.At s'.heap S M → Has kd ks n M → (∀ b o, h0.get? b = some o → s'.heap.get? b = some o) → R (.ok (.ret .none)) s') →
      codeAny (model P w) A (.builtin "set.update.loop" ⟨[.ref S, .ref I], []⟩) R s := by
  have nS : S ∉ wr := fun h => hSf (W.sub _ h)
  have widen : ∀ b ∈ wr, b ∈ S :: wr := fun b hb => List.mem_cons_of_mem _ hb
  have stays : ∀ {s s' : Shared}, Moved wr G s s' → (∀ b o, h0.get? b = some o → s.heap.get? b = some o) → ∀ b o, h0.get? b = some o → s'.heap.get? b = some o := fun hm hkp b o e =>
    hm.heap b o (fun hb => by rw [hw0 b hb] at e; cases e) (hkp b o e)
  intro k
  induction k with
  | zero =>
    intro i s hk' hi hst hkp ⟨M, hS, g⟩ hR
    have e : i = n := by omega
    subst e
    refine codeAny_builtin F.entry_set_update_loop ?_
    rw [Around.under_plainId F.plain_set_update_loop _]
    show wpAny _ A.in1 (pyNext (.ref I) >>= _) _ _ s
    refine wpAny_bind (W.done s _ _ hst fun s' hm => ?_)
    show wpAny _ A.in1 (ret Value.none) _ _ s'
    have hkp' := stays hm hkp
    exact wpAny_pure (hR s' M (hm.mono widen) (kd.keepA hS (fun o e => hm.heap S o nS e) fun m hm2 => kd.keepI (hk m (List.mem_of_mem_take (g.sub m hm2))) hkp') g hkp')
  | succ k ih =>
    intro i s hk' hi hst hkp ⟨M, hS, g⟩ hR
    have hlt : i < n := by omega
    refine codeAny_builtin F.entry_set_update_loop ?_
    rw [Around.under_plainId F.plain_set_update_loop _]
    show wpAny _ A.in1 (pyNext (.ref I) >>= _) _ _ s
    refine wpAny_bind (W.item i s _ _ hlt hst fun v s' hP hst' hm => ?_)
    obtain ⟨x, hx, rfl⟩ := val i v hP
    have hkp' := stays hm hkp
    have hS' : kd.At s'.heap S M := kd.keepA hS (fun o e => hm.heap S o nS e) fun m hm2 => kd.keepI (hk m (List.mem_of_mem_take (g.sub m hm2))) hkp'
    have hx' : kd.Is s'.heap x := kd.keepI (hk x (List.mem_of_getElem? hx)) hkp'
    show wpAny _ A.in1 (holding [kd.val x] (setAdd S (kd.val x)) >>= _) _ _ s'
    refine wpAny_bind (wpAny_holding (kd.add hS' hx' hu (by have := g.len; omega) fun b h' tk M' htk sb hS2 c1 c2 => ?_))
    have g' := g.next hx c1 c2
    have hkp2 : ∀ b o, h0.get? b = some o → h'.get? b = some o := fun b o e => (sb.2 b (fun z => by rw [z, hS0] at e; cases e)).trans (hkp' b o e)
    refine wpAny_pure ⟨plainId_quiet F.plain_set_update_loop _, ih (i + 1) _ (by omega) hlt (W.frame _ s' _ _ hst' htk fun b hb o e => ?_) hkp2 ⟨M', hS2, g'⟩ fun s'' M2 hm'' hS'' g'' hkp'' => ?_⟩
    · rw [sb.2 b (fun h : b = S => hSf (by rw [← h]; exact hb))]
      exact e
    · refine hR s'' M2 (Moved.trans W.gtrans ((hm.mono widen).then_heap htk fun b o hb e => ?_) hm'') hS'' g'' hkp''
      rw [sb.2 b (fun h : b = S => hb (by rw [h]; exact List.mem_cons_self))]
      exact e

theorem setCall {l : Addr} {its : Array Value} (kd : SetKd P w) (ks : List kd.μ) {Q : Value → Shared → Prop} (hh : A.handled = none) (hl : s.heap.IsList l its) (hit : its.toList = ks.map kd.val)
    (hk : ∀ m ∈ ks, kd.Is s.heap m) (few : ks.length < 64) (hu : A.units + 16 < cLine)
    (q : ∀ (h' : Heap) (tk : Nat) M, kd.At h' s.heap.objs.size M → Has kd ks ks.length M → (∀ b o, s.heap.get? b = some o → h'.get? b = some o) → Q (.ref s.heap.objs.size) { s with heap := h', toks := tk }) :
    wpAny (model P w) A (call (.type "set") [.ref l]) Q E s := by
  have hn : its.size = ks.length := by
    have z := congrArg List.length hit
    rwa [Array.length_toList, List.length_map] at z
  obtain ⟨c, tl, hmro⟩ := F.called_set.mro
  have hmade := F.called_set.made
  have hsub := F.called_set.sub
  refine wpAny_call (codeAny_of_tree ?_)
  show wpAny _ _ (callAny (.type "set") _) _ _ _
  refine wpAny_pure ⟨Code.quiet_builtin _ (by decide +kernel), codeAny_builtin F.entry_type_call ?_⟩
  rw [Around.under_plain (weight_type_call_type "set" [.ref l] []) rfl]
  have h1 := F.called_set.notType
  have h2 := F.called_set.canCreate
  have hct := F.typeCall_set_1 (.ref l)
  repeat (any_goals (first | assumption | wp_step))
  refine codeAny_mono (code_set_led1 (.ref l) (E := E) (Q₁ := fun ob z => ob = .ref s.heap.objs.size ∧ z = { s with heap := s.heap.push (newSet w) }) ⟨rfl, rfl⟩) fun r z hr => ?_
  cases r with
  | error e => exact hr
  | ok fl =>
    cases fl with
    | ret ob =>
      obtain ⟨rfl, rfl⟩ := hr
      have hS : (s.heap.push (newSet w)).get? s.heap.objs.size = some (newSet w) := Heap.get?_push_size _ rfl
      have hT : Shared.TypeIs { s with heap := s.heap.push (newSet w) } (.ref s.heap.objs.size) "set" := ⟨_, hS, rfl⟩
      have hli := F.called_set.init.lookup
      have hbi := F.called_set.init.bind (.ref s.heap.objs.size)
      repeat (any_goals (first | assumption | wp_step))
      refine codeAny_mono (codeAny_call_builtin (R := wants (fun r y => r = .none ∧ ∃ h' tk M, y = { s with heap := h', toks := tk } ∧ kd.At h' s.heap.objs.size M ∧ Has kd ks ks.length M ∧ (∀ b o, s.heap.get? b = some o → h'.get? b = some o)) E)
        F.called_set.init.plain F.entry_set_init (check_set_init_1 hT ?_)) fun r2 y hr2 => ?_
      · obtain ⟨ol, hol, hcl, nl, hdl⟩ := hl
        obtain ⟨ocls, odict, odata, oslots⟩ := ol
        simp only at hcl hdl
        subst hcl; subst hdl
        have hol2 : (s.heap.push (newSet w)).get? l = some { cls := .type "list", dict := odict, data := .seq its nl, slots := oslots } := Heap.get?_push_of_some _ hol
        have b1 := F.sub_list_set
        have b2 := F.sub_list_frozenset
        have b3 : (Value.type "list" == Value.type "dict") = false := by decide
        have hl1 : (s.heap.push (newSet w)).IsList l its := ⟨_, hol2, rfl, nl, rfl⟩
        unfold Builtin.«set.__init__» noKeywords Builtin.Frozenset.updateFrom
        generalize hPI : pyIter = PI
        wp_walk
        subst hPI
        refine wpAny_pyIter_list hl1 (wpAny_bind (wpAny_runValue ?_))
        have hlS : l < s.heap.objs.size := Heap.lt_size hol
        have hh3 : A.in1.in1.in1.handled = none := by simp [hh]
        have sz1 : (s.heap.push (newSet w)).objs.size = s.heap.objs.size + 1 := Heap.size_push ..
        have hneI : l ≠ (s.heap.push (newSet w)).objs.size := by rw [sz1]; exact Nat.ne_of_lt (Nat.lt_succ_of_lt hlS)
        have hSf : s.heap.objs.size ∉ [(s.heap.push (newSet w)).objs.size, l] := by
          rw [sz1]
          simp only [List.mem_cons, List.not_mem_nil, or_false, not_or]
          exact ⟨Nat.ne_of_lt (Nat.lt_succ_self _), Nat.ne_of_gt hlS⟩
        have val : ∀ (i : Nat) (v : Value), its[i]? = some v → ∃ m, ks[i]? = some m ∧ v = kd.val m := fun i v hv => by
          have z : its.toList[i]? = some v := by rw [Array.getElem?_toList]; exact hv
          rw [hit, List.getElem?_map] at z
          cases hq : ks[i]? with
          | none => rw [hq] at z; cases z
          | some m =>
            rw [hq] at z
            exact ⟨m, rfl, (Option.some.inj z).symm⟩
        have free : ∀ b, s.heap.objs.size ≤ b → s.heap.get? b = none := fun b hb => by
          cases z : s.heap.get? b with
          | none => rfl
          | some o => exact absurd (Heap.lt_size z) (Nat.not_lt.mpr hb)
        refine takeIn ((Walks.list hh3 _ l hneI its).toS) s.heap.objs.size hSf kd ks hn few val s.heap hk (free _ (Nat.le_refl _)) (fun b hb => free b (by rw [List.mem_singleton.mp hb, sz1]; exact Nat.le_succ _)) (by simp only [Around.in1_units]; omega)
          (its.size - 0) 0 _ (by omega) (Nat.zero_le _) ⟨⟨_, Heap.get?_push_size _ rfl, rfl, rfl⟩, (hl1.push _)⟩ (fun b o e => Heap.get?_push_of_some _ (Heap.get?_push_of_some _ e)) ?first ?last
        case first => exact ⟨[], kd.fresh (Heap.get?_push_of_some _ hS), ⟨fun m h => (by cases h), fun m h => (by simp at h), Nat.le_refl _⟩⟩
        case last =>
          intro s' M hm hS' g' hkp
          obtain ⟨h', g2, d', tk', os'⟩ := s'
          obtain rfl : g2 = s.gens := hm.gens
          obtain rfl : d' = s.drawn := hm.drawn
          obtain rfl : os' = s.os := hm.os
          show wpAny _ _ _ _ _ _
          refine wpAny_pure ?_
          show wpAny _ _ (ret Value.none) _ _ _
          rw [hn] at g'
          exact wpAny_pure ⟨rfl, h', tk', M, rfl, hS', g', hkp⟩
      · cases r2 with
        | error e => exact hr2
        | ok fl2 =>
          cases fl2 with
          | ret r =>
            obtain ⟨rfl, h', tk, M, rfl, hS', g', hk'⟩ := hr2
            repeat (any_goals (first | assumption | wp_step))
            exact q _ _ _ hS' g' hk'
          | _ => exact hr2.elim
    | _ => exact hr.elim
end NS

/-! DLy: sorted(set(xs)) by value. -/
namespace DL
open PySem PySem.Spec PyProof.Rows L2
mutual
def W.hk : W → Bool
  | .tup ws => W.hkL ws
  | .lit _ => false
  | .ref _ => false
  | .raw _ => false
  | _ => true
def W.hkL : List W → Bool
  | [] => true
  | w :: ws => w.hk && W.hkL ws
end
mutual
def nkW : W → NestedKey
  | .bl b => .num (if b = true then 1 else 0)
  | .int i => .num i
  | .str x => .text x
  | .tup ws => .tup (nkWs ws)
  | _ => .none
def nkWs : List W → List NestedKey
  | [] => []
  | w :: ws => nkW w :: nkWs ws
end
mutual
theorem hk_pure : ∀ w : W, w.hk = true → w.pure = true
  | .non, _ => rfl
  | .bl _, _ => rfl
  | .int _, _ => rfl
  | .str _, _ => rfl
  | .tup ws, h => hkL_pure ws h
  | .lit _, h => by cases h
  | .ref _, h => by cases h
  | .raw _, h => by cases h
theorem hkL_pure : ∀ ws : List W, W.hkL ws = true → W.pureL ws = true
  | [], _ => rfl
  | w :: ws, h => by
    have b : (w.hk && W.hkL ws) = true := h
    rw [Bool.and_eq_true] at b
    show (w.pure && W.pureL ws) = true
    rw [hk_pure w b.1, hkL_pure ws b.2]
    rfl
end
mutual
theorem nis_of {h : Heap} : ∀ (w : W) (v : Value) (as : List Addr), w.hk = true → Reads h v (datW w) as → NestedIs h (nkW w) v ∧ as = []
  | .non, _, _, _, r => by cases r; exact ⟨.none, rfl⟩
  | .bl b, _, _, _, r => by cases r; exact ⟨.bool rfl, rfl⟩
  | .int i, _, _, _, r => by cases r; exact ⟨.int _ _, rfl⟩
  | .str x, _, _, _, r => by cases r; exact ⟨.text _ _, rfl⟩
  | .tup ws, _, _, h, r => by
    cases r with
    | tuple h1 h2 h3 h4 =>
      obtain ⟨a, b⟩ := nisL_of ws _ _ h h4
      exact ⟨.tup h1 h2 h3 a, b⟩
  | .lit _, _, _, h, _ => by cases h
  | .ref _, _, _, h, _ => by cases h
  | .raw _, _, _, h, _ => by cases h
theorem nisL_of {h : Heap} : ∀ (ws : List W) (vs : List Value) (as : List Addr), W.hkL ws = true → ReadsAll h vs (datWs ws) as → NestedAll h (nkWs ws) vs ∧ as = []
  | [], _, _, _, r => by cases r; exact ⟨.nil, rfl⟩
  | w :: ws, _, _, h, r => by
    have b : (w.hk && W.hkL ws) = true := h
    rw [Bool.and_eq_true] at b
    cases r with
    | cons r1 r2 =>
      obtain ⟨a1, b1⟩ := nis_of w _ _ b.1 r1
      obtain ⟨a2, b2⟩ := nisL_of ws _ _ b.2 r2
      subst b1 b2
      exact ⟨.cons a1 a2, rfl⟩
end
theorem perm_pre {α β : Type} {f : α → β} : ∀ {l1 l2 : List β}, l1.Perm l2 → ∀ xs : List α, l2 = xs.map f → ∃ ys : List α, ys.Perm xs ∧ l1 = ys.map f := by
  intro l1 l2 h
  induction h with
  | nil => intro xs e; exact ⟨[], by rw [List.map_eq_nil_iff.mp e.symm], rfl⟩
  | cons x h ih =>
    intro xs e
    obtain ⟨a, r, rfl, rfl, e2⟩ := List.map_eq_cons_iff.mp e.symm
    obtain ⟨ys, p, rfl⟩ := ih r e2.symm
    exact ⟨a :: ys, p.cons a, rfl⟩
  | swap x y l =>
    intro xs e
    obtain ⟨a, r, rfl, rfl, e2⟩ := List.map_eq_cons_iff.mp e.symm
    obtain ⟨b, r2, rfl, rfl, e3⟩ := List.map_eq_cons_iff.mp e2
    exact ⟨b :: a :: r2, .swap .., by rw [List.map_cons, List.map_cons, e3]⟩
  | trans _ _ i1 i2 =>
    intro xs e
    obtain ⟨ys, p, e1⟩ := i2 xs e
    obtain ⟨zs, p2, e2⟩ := i1 ys e1
    exact ⟨zs, p2.trans p, e2⟩
theorem pick_pre {α β : Type} {f : α → β} : ∀ (M : List β) (bs : List α), (∀ m ∈ M, m ∈ bs.map f) → ∃ cs : List α, M = cs.map f ∧ ∀ c ∈ cs, c ∈ bs
  | [], _, _ => ⟨[], rfl, fun c h => by cases h⟩
  | m :: M, bs, h => by
    obtain ⟨c, hc, e⟩ := List.mem_map.mp (h m List.mem_cons_self)
    obtain ⟨cs, e2, hs⟩ := pick_pre M bs fun x hx => h x (List.mem_cons_of_mem _ hx)
    refine ⟨c :: cs, by rw [List.map_cons, e, e2], fun d hd => ?_⟩
    rcases List.mem_cons.mp hd with e | hd
    · rw [e]
      exact hc
    · exact hs d hd
def adr : V → Addr
  | .ref p => p
  | _ => 0
/-- a member, as it stands in the heap -/
abbrev memV (c : V × W) : NS.Mem := (adr c.1, nkW c.2)
structure SetN0 (P : Program) (w : World) (h : Heap) (a : Addr) (M : List NS.Mem) : Prop where
  ex : ∃ (es : Array (Int × Value)) (ep : Nat) (t : SetTable), (∃ o, h.get? a = some o ∧ o.ExactSet ∧ o.data = .set es ep t) ∧ es.toList = NS.entries w M ∧ TabOk t (NS.hashesN w M) ∧ (M.map (·.2)).Nodup ∧
    (w.params.followText "set-order" = true ∨ t.led = true) ∧ M.length * 5 < t.mask * 3 ∧ M.length < 64
def SetNO (P : Program) (w : World) (a : Addr) (M : List NS.Mem) : HO := .ext fun h => SetN0 P w h a M
theorem setNO_ok {P : Program} {w : World} {H : Hp} {h : Heap} {a : Addr} {M : List NS.Mem} {es : Array (Int × Value)} {ep : Nat} {t : SetTable} (R : NS.SetN P w h a M es ep t) : ObjOk P w H h a (SetNO P w a M) := by
  obtain ⟨o, ho, r⟩ := R.here
  refine ⟨⟨es, ep, t, ⟨o, ho, r⟩, R.ents, R.tab, R.uni, R.led, R.room, R.few⟩, ⟨o, ho⟩, fun h1 h2 x k => ?_⟩
  obtain ⟨es', ep', t', ⟨o', ho', r'⟩, q'⟩ := SetN0.ex x
  exact ⟨es', ep', t', ⟨o', k o' ho', r'⟩, q'⟩
/-- tuples as members -/
abbrev nestKd (P : Program) (w : World) : NS.SetKd P w where
  μ := NS.Mem
  κ := NestedKey
  key := (·.2)
  val m := .ref m.1
  Is h m := NS.NI P w h m.2 m.1
  At h a M := ∃ es ep t, NS.SetN P w h a M es ep t
  keepI := NS.ni_keep
  keepA := fun ⟨es, ep, t, R⟩ k hm => ⟨es, ep, t, R.keep k hm⟩
  fresh := fun ho => ⟨#[], 0, _, NS.freshQ ho⟩
  add := fun {A E s a M m Q} ⟨es, ep, t, R⟩ hm hu few q => by
    unfold setAdd
    refine wpAny_holding (wpAny_bind ((nestedKind P w).pyHash hu hm ?_))
    exact NS.addQ (s := { s with toks := s.toks + (nestedKind P w).draws m.2 }) R hm hu few fun b h' M' es' ep' t' sb R' c1 c2 => q b h' _ M' (Nat.le_add_right _ _) sb ⟨es', ep', t', R'⟩ c1 c2
/-- an item of which a set may be made -/
structure Hk (K : Fg) (H : Hp) (b : V × W) : Prop where
  rf : ∃ p, b.1 = .ref p
  dp : Dp K H b.1 (datW b.2)
  hk : b.2.hk = true
  dep : (nkW b.2).depth ≤ 8
section
variable {X : Cx} {pins : List (Addr × Obj)} {σ : L2.St} {H : Hp} {s : Shared}
theorem Hk.ni {b : V × W} (x : Hk X.K H b) (I : Inv X pins σ H s) : NS.NI X.prog X.w s.heap (nkW b.2) (adr b.1) := by
  obtain ⟨p, e⟩ := x.rf
  have d := x.dp
  rw [e] at d
  obtain ⟨as, r⟩ := Dp.reads I _ _ (.ref p) d rfl
  rw [e]
  exact ⟨(nis_of b.2 _ as x.hk r).1, x.dep⟩
def rSetN (K : Fg) (P : Program) (w : World) : List V → Hp → VK → Prop := fun xs H Q => ∃ (l : Addr) (bs : List (V × W)), xs = [.ref l] ∧ SqL K H l (bs.map (·.1)) ∧ (∀ b ∈ bs, Hk K H b) ∧ bs.length < 64 ∧
  ∀ (a : Addr) (cs : List (V × W)), H a = none → (∀ c ∈ cs, c ∈ bs) → (∀ b ∈ bs, nkW b.2 ∈ cs.map fun c => nkW c.2) → (cs.map fun c => nkW c.2).Nodup → cs.length < 64 → Q (.ref a) (upd H a (SetNO P w a (cs.map memV)))
theorem refs_vals : ∀ {bs : List (V × W)} {us : List Value}, (∀ b ∈ bs, ∃ p, b.1 = .ref p) → Vals (bs.map (·.1)) us → us = (bs.map memV).map fun m => Value.ref m.1
  | [], _, _, .nil => rfl
  | b :: bs, u :: us, h, .cons r t => by
    obtain ⟨p, e⟩ := h b List.mem_cons_self
    have r2 : RelV b.1 u := r
    rw [e] at r2
    cases r2
    rw [List.map_cons, List.map_cons, ← refs_vals (fun c hc => h c (List.mem_cons_of_mem _ hc)) t]
    show _ = Value.ref (adr b.1) :: us
    rw [e]
    rfl
theorem cr_setN (hc : X.calm = true) (hu : X.A.units + 64 < cLine) : CallR X (.type "set") (rSetN X.K X.prog X.w) := by
  intro pins s σ H xs us Q I r h
  obtain ⟨l, bs, rfl, hl, hb, few, q⟩ := h
  rw [Vals.ref1 r]
  obtain ⟨its, rv, pl, hz⟩ := I.list hl
  have hn : H s.heap.objs.size = none := I.hok.fresh (Nat.le_refl _)
  have hit : its.toArray.toList = (bs.map memV).map fun m => Value.ref m.1 := by simpa using refs_vals (fun b h => (hb b h).rf) rv
  have lb : (bs.map memV).length = bs.length := List.length_map ..
  have hni : ∀ m ∈ bs.map memV, NS.NI X.prog X.w s.heap m.2 m.1 := fun m hm => by
    obtain ⟨b, hbm, rfl⟩ := List.mem_map.mp hm
    exact (hb b hbm).ni I
  generalize hks : bs.map memV = ks at hit lb hni
  refine NS.setCall (nestKd X.prog X.w) ks (I.ok.hd hc) pl.isList hit hni (by omega) (by omega) fun h' tk M ⟨es, ep, t, R⟩ g k => ?_
  have sub : ∀ m ∈ M, m ∈ bs.map memV := fun m hm => by
    rw [hks]
    exact List.mem_of_mem_take (g.sub m hm)
  obtain ⟨cs, rfl, hcs⟩ := pick_pre M bs sub
  refine ⟨.ref s.heap.objs.size, upd H s.heap.objs.size (SetNO X.prog X.w s.heap.objs.size (cs.map memV)), I.laid (t' := tk) k (Nat.le_refl _) (setNO_ok R), rfl, q _ cs hn hcs (fun b hbm => ?_) ?_ (by have z := R.few; rwa [List.length_map] at z)⟩
  · have z := g.all (memV b) (by rw [List.take_of_length_le (Nat.le_refl _), ← hks]; exact List.mem_map.mpr ⟨b, hbm, rfl⟩)
    have z2 : (memV b).2 ∈ (cs.map memV).map (·.2) := z
    rw [List.map_map] at z2
    exact z2
  · have z := R.uni
    rw [List.map_map] at z
    exact z
def rSortN (K : Fg) (P : Program) (w : World) : List V → Hp → VK → Prop := fun xs H Q => ∃ (a : Addr) (cs : List (V × W)), xs = [.ref a] ∧ H a = some (SetNO P w a (cs.map memV)) ∧ (∀ c ∈ cs, Hk K H c) ∧
  PySem.W.AllAlike (cs.map fun c => datW c.2) ∧ PySem.W.Sortable (cs.map fun c => datW c.2) ∧ (∀ c ∈ cs, (datW c.2).depth ≤ 60) ∧ cs.length < 64 ∧
  ∀ (ds : List (V × W)) (p : Addr), ds.Perm cs → H p = none → Q (.ref p) (upd H p (.lst ((ds.mergeSort (PySem.W.dataLe false fun b => datW b.2)).map (·.1))))
theorem vals_refs : ∀ {cs : List (V × W)}, (∀ c ∈ cs, ∃ p, c.1 = .ref p) → PySem.W.EachIs (fun (v : Value) (b : V × W) => RelV b.1 v) (cs.map fun c => Value.ref (adr c.1)) cs
  | [], _ => .nil
  | c :: cs, h => by
    obtain ⟨p, e⟩ := h c List.mem_cons_self
    refine .cons ?_ (vals_refs fun d hd => h d (List.mem_cons_of_mem _ hd))
    show RelV c.1 (.ref (adr c.1))
    rw [e]
    rfl
theorem each_reads (I : Inv X pins σ H s) {h1 : Heap} (k : ∀ b o, s.heap.get? b = some o → h1.get? b = some o) {n : Addr} : ∀ {ds : List (V × W)}, (∀ d ∈ ds, Hk X.K H d) →
    PySem.W.EachIs (fun (v : Value) (b : V × W) => ∃ as, Reads h1 v (datW b.2) as ∧ n ∉ as) (ds.map fun c => Value.ref (adr c.1)) ds
  | [], _ => .nil
  | c :: cs, h => by
    refine .cons ?_ (each_reads I k fun d hd => h d (List.mem_cons_of_mem _ hd))
    have x := h c List.mem_cons_self
    obtain ⟨p, e⟩ := x.rf
    have d := x.dp
    rw [e] at d
    obtain ⟨as, r⟩ := Dp.reads I _ _ (.ref p) d rfl
    have z := (nis_of c.2 _ as x.hk r).2
    refine ⟨as, PyProof.Rows.Reads.keeps (fun b o q => k b o q) (by show Reads _ (Value.ref (adr c.1)) _ _; rw [e]; exact r), ?_⟩
    rw [z]
    exact List.not_mem_nil
theorem alike_perm {ds cs : List (V × W)} (h : ds.Perm cs) (al : PySem.W.AllAlike (cs.map fun c => datW c.2)) : PySem.W.AllAlike (ds.map fun c => datW c.2) := fun d hd d' hd' =>
  al d ((h.map _).mem_iff.mp hd) d' ((h.map _).mem_iff.mp hd')
theorem sortable_perm {ds cs : List (V × W)} (h : ds.Perm cs) (so : PySem.W.Sortable (cs.map fun c => datW c.2)) : PySem.W.Sortable (ds.map fun c => datW c.2) :=
  so.elim (fun x => .inl fun d hd => x d ((h.map _).mem_iff.mp hd)) fun x => .inr fun d hd => x d ((h.map _).mem_iff.mp hd)
theorem cr_sortN (hc : X.calm = true) (hu : X.A.units + 80 < cLine) : CallR X (.builtin "sorted") (rSortN X.K X.prog X.w) := by
  intro pins s σ H xs us Q I r h
  obtain ⟨a, cs, rfl, ha, hk, al, so, dp, few, q⟩ := h
  rw [Vals.ref1 r]
  obtain ⟨es, ep, t, ⟨o, ho, hex, hd⟩, ents, T, uni, led, room, _⟩ := SetN0.ex (I.hok a _ ha).1
  have hfit := NS.fits_of ents T (by omega)
  have hsz := NS.entries_size ents
  rw [List.length_map] at hsz
  refine Calls.call_function_entry kind_sorted plain_sorted entry_sorted (args_sorted1 _) ?_
  unfold Builtin.«sorted»
  refine wpAny_bind (m := checkCount "sorted" 1 1 _) (wpAny_pure ?_)
  refine wpAny_bind (collect_set (A := X.A.in1) (I.ok.hd hc) ⟨o, ho, hex.1, hd⟩ hfit (by unfold scanBound; omega) T.ris led fun s1 vs k1 hz g1 o1 pm => ?_)
  have hes : es.toList.map (·.2) = cs.map fun c => Value.ref (adr c.1) := by
    rw [ents]
    unfold NS.entries
    rw [List.map_map, List.map_map]
    rfl
  rw [hes] at pm
  obtain ⟨ds, hds, rfl⟩ := perm_pre pm cs rfl
  have hdk : ∀ d ∈ ds, Hk X.K H d := fun d hd => hk d (hds.mem_iff.mp hd)
  have hdl : ds.length < 64 := by rw [hds.length_eq]; exact few
  refine wpAny_bind (wpAny_newList ?_ (by rw [List.length_map, sizeLine_eq]; omega))
  have hoL : (s1.heap.push { cls := .type "list", data := .seq (ds.map fun c => Value.ref (adr c.1)).toArray }).get? s1.heap.objs.size = some (seqObj "list" (ds.map fun c => Value.ref (adr c.1)).toArray 0) := Heap.get?_push_size _ rfl
  have k2 : ∀ b o, s.heap.get? b = some o → (s1.heap.push { cls := .type "list", data := .seq (ds.map fun c => Value.ref (adr c.1)).toArray }).get? b = some o := fun b o e => Heap.get?_push_of_some _ (k1 b o e)
  refine wpAny_bind (wpAny_holding (PySem.W.list_sort_data (s := { s1 with heap := s1.heap.push { cls := .type "list", data := .seq (ds.map fun c => Value.ref (adr c.1)).toArray } }) hoL (vals_refs fun d h => (hdk d h).rf) (each_reads I k2 hdk) (alike_perm hds al) (sortable_perm hds so)
    (by rw [sizeLine_eq]; omega) (fun b hb => by have := dp b (hds.mem_iff.mp hb); simp only [Around.in1_units]; omega) fun out ho2 eo => ?_))
  obtain ⟨c, hg⟩ := sortedHeap_at (vs := ds.map fun c => Value.ref (adr c.1)) (out := out.toArray) hoL
  have hsz2 : s.heap.objs.size ≤ s1.heap.objs.size := hz
  have hn : H s1.heap.objs.size = none := I.hok.fresh hsz2
  have k3 : ∀ b o, s.heap.get? b = some o → (sortedHeap (s1.heap.push { cls := .type "list", data := .seq (ds.map fun c => Value.ref (adr c.1)).toArray }) s1.heap.objs.size (ds.map fun c => Value.ref (adr c.1)) out.toArray).get? b = some o := fun b o e => by
    have hlt := Heap.lt_size (k1 b o e)
    rw [sortedHeap_old (Nat.ne_of_lt hlt) (by rw [size_push']; exact Nat.lt_succ_of_lt hlt)]
    exact k2 b o e
  have J := I.call (g' := s1.gens) (d' := s1.drawn) (t' := s1.toks) (ch := []) (Un.laid k3 hsz2 hn) (I.hok.laid (o := .lst ((ds.mergeSort (PySem.W.dataLe false fun b => datW b.2)).map (·.1))) k3 hsz2
    ⟨by rw [List.length_map, List.length_mergeSort, sizeLine_eq]; omega, out, c, vals_each eo, hg⟩) (by rw [g1]; exact I.bare) (fun _ z => nomatch z)
  refine wpAny_pure ⟨_, rfl, ?_⟩
  have e : s1.os = s.os := o1
  obtain ⟨h1, gg, dd, tt, oo⟩ := s1
  obtain rfl : oo = s.os := e
  exact ⟨.ref h1.objs.size, _, J, rfl, q ds _ hds hn⟩
end
end DL

/-! DLz: sorted(set(xs)) as an expression. -/
namespace DL
open PySem PySem.Spec PyProof.Rows L2
structure SetOk (ws : List W) : Prop where
  few : ws.length < 64
  tup : ∀ w ∈ ws, ∃ us, w = .tup us
  hk : ∀ w ∈ ws, w.hk = true
  dep : ∀ w ∈ ws, (nkW w).depth ≤ 8
  al : PySem.W.AllAlike (ws.map datW)
  so : PySem.W.Sortable (ws.map datW)
  dp : ∀ w ∈ ws, (datW w).depth ≤ 60
/-- us is what a set of ws may hold, in some sequence -/
structure SetPick (ws us : List W) : Prop where
  sub : ∀ u ∈ us, u ∈ ws
  all : ∀ w ∈ ws, nkW w ∈ us.map nkW
  nd : (us.map nkW).Nodup
def vSortSet (xs : List W) (S : Sto) (Q : WK) : Prop := match xs with
  | [.ref i] => ∃ ws, S[i]? = some (.lst ws) ∧ SetOk ws ∧ ∀ us, SetPick ws us → Q (.ref S.length) (S ++ [.lst (us.mergeSort leW)])
  | _ => False
theorem SetPick.perm {ws us vs : List W} (h : SetPick ws us) (p : vs.Perm us) : SetPick ws vs :=
  ⟨fun u hu => h.sub u (p.mem_iff.mp hu), fun w hw => (p.map nkW).mem_iff.mpr (h.all w hw), (p.map nkW).nodup_iff.mpr h.nd⟩
section
variable {X : Cx} {e : Expr} {es : List Expr} {dA : DA} {pos pos2 p p2 : Pos}
theorem sortSet_sim {K : Fg} {P : Program} {w : World} {r : List Addr} {H : Hp} {S : Sto} {xs : List V} {ws : List W} {Q : WK} {Q0 : VK} (R : RelS K r H S) (l : RepL K r H xs ws) (d : vSortSet ws S Q)
    (k : ∀ r' H' S' v w, Ext K r H r' H' → RelS K r' H' S' → Rep K r' H' v w → Q w S' → Q0 v H') : rSetN K P w xs H fun v H1 => rSortN K P w [v] H1 Q0 := by
  cases l with
  | nil => exact d.elim
  | cons p l =>
    cases l with
    | cons p' l' => cases p <;> exact d.elim
    | nil =>
      cases p <;> try exact d.elim
      rename_i a i h
      obtain ⟨us, hi, ok, q⟩ := d
      obtain ⟨vs, ha, lv⟩ := R.obj i a _ h hi
      have e1 := zip_fst lv.length
      have e2 := zip_snd lv.length
      have hkb : ∀ {H2 : Hp} {r2 : List Addr}, Ext K r H r2 H2 → ∀ b ∈ vs.zip us, Hk K H2 b := fun e0 b hb => by
        have hm : b.2 ∈ us := by rw [← e2]; exact List.mem_map_of_mem hb
        have rp := (repL_zip lv b hb).mono e0
        obtain ⟨ts, et⟩ := ok.tup _ hm
        refine ⟨?_, dp_of rp (hk_pure _ (ok.hk _ hm)), ok.hk _ hm, ok.dep _ hm⟩
        rw [et] at rp
        generalize b.1 = v at rp
        cases rp with
        | tup _ _ => exact ⟨_, rfl⟩
      refine ⟨a, vs.zip us, rfl, by rw [e1]; exact .of ha, hkb .refl, by rw [List.length_zip, lv.length, Nat.min_self]; exact ok.few, fun a2 cs hn sub all nd few => ?_⟩
      have e0 : Ext K r H r (upd H a2 (SetNO P w a2 (cs.map memV))) := ext_new hn
      have hus : ∀ c ∈ cs, c.2 ∈ us := fun c hc => by
        rw [← e2]
        exact List.mem_map_of_mem (sub c hc)
      refine ⟨a2, cs, rfl, upd_same, fun c hc => hkb e0 c (sub c hc), fun d hd d' hd' => ?_, ?_, fun c hc => ok.dp _ (hus c hc), few, fun ds p hds hnp => ?_⟩
      · obtain ⟨c, hc, rfl⟩ := List.mem_map.mp hd
        obtain ⟨c', hc', rfl⟩ := List.mem_map.mp hd'
        exact ok.al _ (List.mem_map_of_mem (hus c hc)) _ (List.mem_map_of_mem (hus c' hc'))
      · exact ok.so.elim (fun x => .inl fun d hd => by
          obtain ⟨c, hc, rfl⟩ := List.mem_map.mp hd
          exact x _ (List.mem_map_of_mem (hus c hc))) fun x => .inr fun d hd => by
          obtain ⟨c, hc, rfl⟩ := List.mem_map.mp hd
          exact x _ (List.mem_map_of_mem (hus c hc))
      · have e4 : (ds.mergeSort (PySem.W.dataLe false fun b => datW b.2)).map (·.2) = (ds.map (·.2)).mergeSort leW :=
          List.map_mergeSort (r := PySem.W.dataLe false fun b : V × W => datW b.2) (s := leW) (f := fun b : V × W => b.2) (l := ds) fun x _ y _ => rfl
        have rl : RepL K r (upd H a2 (SetNO P w a2 (cs.map memV))) ((ds.mergeSort (PySem.W.dataLe false fun b => datW b.2)).map (·.1)) ((ds.map (·.2)).mergeSort leW) := by
          rw [← e4]
          exact repL_of_pairs fun b hb => (repL_zip lv b (sub b (hds.mem_iff.mp ((List.mergeSort_perm _ _).mem_iff.mp hb)))).mono e0
        have R1 := rel_new (o := SetNO P w a2 (cs.map memV)) R hn
        refine k _ _ _ _ _ (e0.trans (ext_mem hnp)) (new_lst R1 hnp rl) (rep_mem R1) (q _ ⟨fun u hu => ?_, fun x hx => ?_, ?_⟩)
        · obtain ⟨c, hc, rfl⟩ := List.mem_map.mp hu
          exact hus c (hds.mem_iff.mp hc)
        · rw [← e2] at hx
          obtain ⟨b, hb, rfl⟩ := List.mem_map.mp hx
          have z := (hds.map fun c => nkW c.2).mem_iff.mpr (all b hb)
          rw [List.map_map]
          exact z
        · have z := (hds.map fun c => nkW c.2).nodup_iff.mpr nd
          rw [List.map_map]
          exact z
theorem c_sortSet (hc : X.calm = true) (hu : X.A.units + 80 < cLine) (hg : Gl X "sorted") (hm : X.mg "sorted" = none) (hg2 : Gl X "set") (hm2 : X.mg "set" = none) (ha : XA X (e :: es) dA)
    (he : starEach (e :: es) X.env = (false, eval e X.env) :: starEach es X.env := by rfl) (hpl : (backTo pos2 (starEach es X.env)).any (·.1) = false := by rfl)
    (he2 : starEach [.Call (.Name "set" p2) (e :: es) [] pos2] X.env = (false, eval (.Call (.Name "set" p2) (e :: es) [] pos2) X.env) :: starEach [] X.env := by rfl) (hpl2 : (backTo pos (starEach [] X.env)).any (·.1) = false := by rfl) :
    XE X (.Call (.Name "sorted" p) [.Call (.Name "set" p2) (e :: es) [] pos2] [] pos) (dCB vSortSet dA) := by
  obtain ⟨ta, pa, sa⟩ := ha.ex
  have p1 := pe_callTy (p := p2) (pos := pos2) (cr_setN hc (by omega)) hg2 hm2 (by decide +kernel) pa (by decide) (by decide) he hpl
  refine ⟨_, pe_callB (p := p) (pos := pos) (cr_sortN hc hu) hg hm (by decide +kernel) (pa_cons p1 pa_nil he2) (by decide) (by decide) he2 hpl2, fun r H S s env Q Q0 R E d k => ?_⟩
  exact sa r H S s env _ _ R E d fun r1 H1 S1 vs ws e1 R1 l d1 => sortSet_sim (P := X.prog) (w := X.w) R1 l d1 fun r2 H2 S2 v w e2 => k r2 H2 S2 v w (e1.trans e2)
end
end DL


/-! DM: dicts whose keys are tuples, in the store. -/
namespace DL
open PySem PySem.Spec PyProof.Rows L2
abbrev TKey := List Key
def keyT : List W → Option TKey
  | [] => some []
  | w :: ws => match keyW w, keyT ws with
    | some k, some ks => some (k :: ks)
    | _, _ => none
theorem rep_keyT {K : Fg} {r : List Addr} {H : Hp} : ∀ {ws : List W} {vs : List V} {ks : TKey}, RepL K r H vs ws → keyT ws = some ks → vs = ks.map kV
  | [], _, _, .nil, h => by
    cases h
    rfl
  | w :: ws, _, ks, .cons p l, h => by
    have h2 : (match keyW w, keyT ws with | some k, some ks => some (k :: ks) | _, _ => none) = some ks := h
    cases e1 : keyW w with
    | none => rw [e1] at h2; cases h2
    | some k =>
      cases e2 : keyT ws with
      | none => rw [e1, e2] at h2; cases h2
      | some ks2 =>
        rw [e1, e2] at h2
        cases h2
        rw [rep_key p e1, rep_keyT l e2]
        rfl
def valT (kvs : List (TKey × W)) (k : TKey) : Option W := (kvs.find? fun kv => decide (kv.1 = k)).map (·.2)
def putT (kvs : List (TKey × W)) (k : TKey) (w : W) : List (TKey × W) :=
  if (kvs.any fun kv => decide (kv.1 = k)) = true then kvs.map (fun kv => if kv.1 = k then (kv.1, w) else kv) else kvs ++ [(k, w)]
section
variable {K : Fg} {r : List Addr} {H : Hp} {S : Sto}
def RelT (K : Fg) (r : List Addr) (H : Hp) (vs : List (TKey × V)) (ws : List (TKey × W)) : Prop := vs.map (·.1) = ws.map (·.1) ∧ RepL K r H (vs.map (·.2)) (ws.map (·.2))
theorem kt_inv {p : TKey × W} {vs : List (TKey × V)} {ws : List (TKey × W)} (l : RelT K r H vs (p :: ws)) : ∃ v vs', vs = (p.1, v) :: vs' ∧ Rep K r H v p.2 ∧ RelT K r H vs' ws := by
  obtain ⟨h1, h2⟩ := l
  cases vs with
  | nil => simp at h1
  | cons q vs =>
    rw [List.map_cons, List.map_cons] at h1
    rw [List.map_cons, List.map_cons] at h2
    cases h2 with
    | cons a b =>
      obtain ⟨k, v⟩ := q
      have e1 : k = p.1 := (List.cons.inj h1).1
      exact ⟨v, vs, by rw [← e1], a, (List.cons.inj h1).2, b⟩
theorem kt_cons {k : TKey} {v : V} {w : W} {vs : List (TKey × V)} {ws : List (TKey × W)} (h : Rep K r H v w) (l : RelT K r H vs ws) : RelT K r H ((k, v) :: vs) ((k, w) :: ws) :=
  ⟨by rw [List.map_cons, List.map_cons, l.1], .cons h l.2⟩
theorem kt_empty {vs : List (TKey × V)} (l : RelT K r H vs []) : vs = [] := by
  have h := l.1
  cases vs with
  | nil => rfl
  | cons a b => simp at h
theorem kt_len {vs : List (TKey × V)} {ws : List (TKey × W)} (l : RelT K r H vs ws) : vs.length = ws.length := by
  have h := congrArg List.length l.1
  rwa [List.length_map, List.length_map] at h
theorem kt_val {k : TKey} : ∀ {ws : List (TKey × W)} {vs : List (TKey × V)}, RelT K r H vs ws → (∀ w, valT ws k = some w → ∃ v, valV vs k = some v ∧ Rep K r H v w) ∧ (valT ws k = none → valV vs k = none)
  | [], vs, l => by
    cases kt_empty l
    exact ⟨fun w h => (by cases h), fun _ => rfl⟩
  | p :: ws, vs, l => by
    obtain ⟨v, vs', rfl, a, b⟩ := kt_inv l
    have ih := kt_val (k := k) b
    by_cases e : p.1 = k
    · have h1 : valT (p :: ws) k = some p.2 := by unfold valT; simp [e]
      have h2 : valV ((p.1, v) :: vs') k = some v := by unfold valV; simp [e]
      rw [h1, h2]
      exact ⟨fun w h => by cases h; exact ⟨v, rfl, a⟩, fun h => by cases h⟩
    · have h1 : valT (p :: ws) k = valT ws k := by unfold valT; simp [e]
      have h2 : valV ((p.1, v) :: vs') k = valV vs' k := by unfold valV; simp [e]
      rw [h1, h2]
      exact ih
theorem kt_some {k : TKey} {ws : List (TKey × W)} {vs : List (TKey × V)} (l : RelT K r H vs ws) : (valV vs k).isSome = (valT ws k).isSome := by
  obtain ⟨f, g⟩ := kt_val (k := k) l
  cases hw : valT ws k with
  | none => rw [g hw]; rfl
  | some w =>
    obtain ⟨v, hv, _⟩ := f w hw
    rw [hv]
    rfl
theorem kt_repl {k : TKey} {v : V} {w : W} (h : Rep K r H v w) : ∀ {ws : List (TKey × W)} {vs : List (TKey × V)}, RelT K r H vs ws → RelT K r H (vs.map fun kv => if kv.1 = k then (kv.1, v) else kv) (ws.map fun kv => if kv.1 = k then (kv.1, w) else kv)
  | [], vs, l => by
    cases kt_empty l
    exact ⟨rfl, .nil⟩
  | p :: ws, vs, l => by
    obtain ⟨u, vs', rfl, a, b⟩ := kt_inv l
    have ih := kt_repl (k := k) h b
    rw [List.map_cons, List.map_cons]
    by_cases e : p.1 = k
    · rw [if_pos e, if_pos e]
      exact kt_cons h ih
    · rw [if_neg e, if_neg e]
      exact kt_cons a ih
theorem kt_put {k : TKey} {v : V} {w : W} (h : Rep K r H v w) {ws : List (TKey × W)} {vs : List (TKey × V)} (l : RelT K r H vs ws) : RelT K r H (putK vs k v) (putT ws k w) := by
  unfold putK putT
  have e : (vs.any fun kv => decide (kv.1 = k)) = ws.any fun kv => decide (kv.1 = k) := by
    have e1 : (vs.any fun kv => decide (kv.1 = k)) = (vs.map (·.1)).any fun x => decide (x = k) := by rw [List.any_map]; rfl
    have e2 : (ws.any fun kv => decide (kv.1 = k)) = (ws.map (·.1)).any fun x => decide (x = k) := by rw [List.any_map]; rfl
    rw [e1, e2, l.1]
  rw [e]
  split
  · exact kt_repl h l
  · refine ⟨by rw [List.map_append, List.map_append, l.1]; rfl, ?_⟩
    rw [List.map_append, List.map_append]
    exact l.2.app (.cons h .nil)
theorem kt_mono {r' : List Addr} {H' : Hp} (e : Ext K r H r' H') {ws : List (TKey × W)} {vs : List (TKey × V)} (l : RelT K r H vs ws) : RelT K r' H' vs ws := ⟨l.1, l.2.mono e⟩
theorem wr_dt (R : RelS K r H S) {i : Nat} {p : Addr} {vs vs' : List (TKey × V)} {ws' : List (TKey × W)} (hp : r[i]? = some p) (h : H p = some (.dT vs)) (l : RelT K r H vs' ws') : RelS K r (upd H p (.dT vs')) (S.set i (.dt ws')) :=
  rel_wr R hp h trivial ⟨vs', upd_same, kt_mono (ext_wr hp h trivial) l⟩
theorem new_tk (R : RelS K r H S) {p : Addr} {xs : List V} {ws : List W} (h : H p = none) (l : RepL K r H xs ws) : RelS K (r ++ [p]) (upd H p (.tup xs)) (S ++ [.tk ws]) :=
  rel_mem (o := .tk ws) R h ⟨xs, upd_same, l.mono (ext_mem h)⟩
theorem new_dt (R : RelS K r H S) {p : Addr} (h : H p = none) : RelS K (r ++ [p]) (upd H p (.dT [])) (S ++ [.dt []]) :=
  rel_mem (o := .dt []) R h ⟨[], upd_same, rfl, .nil⟩
/-- a tracked tuple is the key k -/
theorem tk_at (R : RelS K r H S) {j : Nat} {b : Addr} {ws : List W} {k : TKey} (h : r[j]? = some b) (hs : S[j]? = some (.tk ws)) (hk : keyT ws = some k) : H b = some (.tup (k.map kV)) := by
  obtain ⟨xs, h1, l⟩ := R.obj j _ _ h hs
  rw [h1, rep_keyT l hk]
end
section
variable {X : Cx} {a b e f o : Expr} {es : List Expr} {da db d0 dx : DE} {dA : DA} {pos p apos cpos : Pos}
/-! ### the key: tuple(xs) that is tracked -/
def vTupleK (xs : List W) (S : Sto) (Q : WK) : Prop := match xs with
  | [.ref i] => ∃ ws, S[i]? = some (.lst ws) ∧ Q (.ref S.length) (S ++ [.tk ws])
  | _ => False
theorem tupleK_sim : SimC X.K (fun xs H Q => ∃ p ys, xs = [.ref p] ∧ ((SqL X.K H p ys ∧ ∀ l, H l = none → Q (.ref l) (upd H l (.tup ys))) ∨ (SqT X.K H p ys ∧ Q (.ref p) H))) vTupleK := by
  intro r H S xs ws Q Q0 R l d k
  cases l with
  | nil => exact d.elim
  | cons p l =>
    cases l with
    | cons p' l' => cases p <;> exact d.elim
    | nil =>
      cases p <;> try exact d.elim
      rename_i a j h
      obtain ⟨ws, h0, q⟩ := d
      obtain ⟨vs, h3, l⟩ := R.obj j _ _ h h0
      exact ⟨a, vs, rfl, .inl ⟨.of h3, fun p hp => k _ _ _ _ _ (ext_mem hp) (new_tk R hp l) (rep_mem R) q⟩⟩
theorem c_tupleK (hg : Gl X "tuple") (hm : X.mg "tuple" = none) (ha : XA X (e :: es) dA) (he : starEach (e :: es) X.env = (false, eval e X.env) :: starEach es X.env := by rfl) (hpl : (backTo pos (starEach es X.env)).any (·.1) = false := by rfl) : XE X (.Call (.Name "tuple" p) (e :: es) [] pos) (dCB vTupleK dA) :=
  xe_callTy call_tuple_of tupleK_sim hg hm (by decide +kernel) ha (by decide) (by decide) he hpl
/-! ### {} -/
def dDict0T : DE := fun _ S Q => Q (.ref S.length) (S ++ [.dt []])
theorem xe_dict0T : XE X (.Dict [] [] pos) dDict0T := ⟨_, pe_dnewT, fun r H S s env Q Q0 R E d k => fun p hp => k _ _ _ _ _ (ext_mem hp) (new_dt R hp) (rep_mem R) d⟩
/-! ### d[k] -/
def rIxDt : R2 := fun x y H Q => ∃ (p b : Addr) (kvs : List (TKey × V)) (k : TKey) (v : V), x = .ref p ∧ y = .ref b ∧ H b = some (.tup (k.map kV)) ∧ H p = some (.dT kvs) ∧ valV kvs k = some v ∧ Q v H
theorem ix_dt (hu : X.A.units + 64 < cLine) : IxR X rIxDt := by
  intro value slice pins s σ H x y v u Q I rx ry h hs
  obtain ⟨p, b, kvs, k, r, rfl, rfl, hb, hp, hv, q⟩ := h
  obtain rfl : v = Value.ref p := rx
  have g : DGet H p (.ref b) (some r) := by
    rw [← hv]
    exact .t hp hb
  exact tail_any (dict_typeIs I g) slot_dict_getitem.lookup (d_getItem (Nat.lt_of_le_of_lt (Nat.add_le_add_left (by decide : 1 ≤ 64) _) hu) I g ry fun w' s3 I3 rw' => ⟨r, H, I3, rw', q⟩) hs
def vIxT (x y : W) (S : Sto) (Q : WK) : Prop := match x, y with
  | .ref p, .ref j => ∃ kvs ws k w, S[p]? = some (.dt kvs) ∧ S[j]? = some (.tk ws) ∧ keyT ws = some k ∧ valT kvs k = some w ∧ Q w S
  | _, _ => False
theorem ixT_sim {K : Fg} : SimR K rIxDt vIxT := by
  intro r H S x y wx wy Q Q0 R px py d k
  cases px <;> cases py <;> try exact d.elim
  rename_i a i h b j h2
  obtain ⟨kvs, ws, key, w, h0, h1, hk, hv, q⟩ := d
  obtain ⟨vs, h3, l⟩ := R.obj i _ _ h h0
  obtain ⟨v, hv2, pv⟩ := (kt_val l).1 w hv
  exact ⟨a, b, vs, key, v, rfl, rfl, tk_at R h2 h1 hk, h3, hv2, k r H S _ _ .refl R pv q⟩
theorem x_ixT (hu : X.A.units + 64 < cLine) (ha : XE X a da) (hb : XE X b db) (hs : PlainIx b := by exact fun _ _ => rfl) : XE X (.Subscript a b pos) (dOp vIxT da db) := xe_ix (ix_dt hu) ixT_sim ha hb hs
/-! ### d[k] = v -/
def vSetT (o i v : W) (S : Sto) (Q : Sto → Prop) : Prop := match o, i with
  | .ref p, .ref j => ∃ kvs ws k, S[p]? = some (.dt kvs) ∧ S[j]? = some (.tk ws) ∧ keyT ws = some k ∧ kvs.length < sizeLine ∧ Q (S.set p (.dt (putT kvs k v)))
  | _, _ => False
def rSetDt : V → V → V → Hp → (Hp → Prop) → Prop := fun o i v H Q => ∃ (p b : Addr) (kvs : List (TKey × V)) (k : TKey), o = .ref p ∧ i = .ref b ∧ H b = some (.tup (k.map kV)) ∧ H p = some (.dT kvs) ∧ kvs.length < sizeLine ∧ Q (upd H p (.dT (putK kvs k v)))
theorem set_dtv (hu : X.A.units + 64 < cLine) : PSet X rSetDt := by
  intro pins s σ H o i v ov iv u Q I ro ri rv h
  obtain ⟨p, b, kvs, k, rfl, rfl, hb, hp, hl, q⟩ := h
  obtain rfl : ov = Value.ref p := ro
  exact d_setItem (Nat.lt_of_le_of_lt (Nat.add_le_add_left (by decide : 1 ≤ 64) _) hu) I (.t hp hb hl) ri rv fun s' I' => ⟨_, I', q⟩
theorem setT_sim {K : Fg} : SimSet K rSetDt vSetT := by
  intro r H S o i v wo wi w Q Q0 R po pi pv d k
  cases po <;> cases pi <;> try exact d.elim
  rename_i a i h b j h2
  obtain ⟨kvs, ws, key, h0, h1, hk, hl, q⟩ := d
  obtain ⟨vs, h3, l⟩ := R.obj i _ _ h h0
  exact ⟨a, b, vs, key, rfl, rfl, tk_at R h2 h1 hk, h3, by rw [kt_len l]; exact hl, k r _ _ (ext_wr h h3 trivial) (wr_dt R h h3 (kt_put pv l)) q⟩
theorem g_subT (hu : X.A.units + 64 < cLine) (ho : XE X o da) (hi : XE X b db) (ha : ∀ v, assign (.Subscript o b pos) X.env v = (do
      let ov ← holding [v] (eval o X.env)
      let iv ← holding [v, ov] (eval b X.env)
      standAt pos
      holding [v, ov, iv] (setItem ov iv v)
      release [v, ov, iv] []) := by intro _; rfl) : XG X (.Subscript o b pos) (gSb da db vSetT) := xg_sub (set_dtv hu) setT_sim ho hi ha
/-! ### in -/
def vInT (neg : Bool) (x y : W) (S : Sto) (Q : WK) : Prop := match x, y with
  | .ref j, .ref p => ∃ kvs ws k, S[p]? = some (.dt kvs) ∧ S[j]? = some (.tk ws) ∧ keyT ws = some k ∧ Q (.bl (neg ^^ (valT kvs k).isSome)) S
  | _, _ => False
def rInDt (neg : Bool) : R2 := fun x y H Q => ∃ (p b : Addr) (kvs : List (TKey × V)) (k : TKey), y = .ref p ∧ x = .ref b ∧ H b = some (.tup (k.map kV)) ∧ H p = some (.dT kvs) ∧ Q (.bl (neg ^^ (valV kvs k).isSome)) H
theorem op_inDt (hu : X.A.units + 64 < cLine) : OpR X (compareOp .In) (rInDt false) := by
  intro pins s σ H x y v u Q I rx ry h
  obtain ⟨p, b, kvs, k, rfl, rfl, hb, hp, q⟩ := h
  obtain rfl : u = Value.ref p := ry
  rw [Bool.false_xor] at q
  exact d_in (Nat.lt_of_le_of_lt (Nat.add_le_add_left (by decide : 1 ≤ 64) _) hu) I (.t hp hb) rx fun s' I' => ⟨.bl _, H, I', rfl, q⟩
theorem op_notInDt (hu : X.A.units + 64 < cLine) : OpR X (compareOp .NotIn) (rInDt true) := by
  intro pins s σ H x y v u Q I rx ry h
  obtain ⟨p, b, kvs, k, rfl, rfl, hb, hp, q⟩ := h
  obtain rfl : u = Value.ref p := ry
  rw [Bool.true_xor] at q
  exact d_notIn (Nat.lt_of_le_of_lt (Nat.add_le_add_left (by decide : 1 ≤ 64) _) hu) I (.t hp hb) rx fun s' I' => ⟨.bl _, H, I', rfl, q⟩
theorem inDt_sim {K : Fg} {neg : Bool} : SimR K (rInDt neg) (vInT neg) := by
  intro r H S x y wx wy Q Q0 R px py d k
  cases px <;> cases py <;> try exact d.elim
  rename_i b j h2 a i h
  obtain ⟨kvs, ws, key, h0, h1, hk, q⟩ := d
  obtain ⟨vs, h3, l⟩ := R.obj i _ _ h h0
  refine ⟨a, b, vs, key, rfl, rfl, tk_at R h2 h1 hk, h3, ?_⟩
  rw [kt_some l]
  exact k r H S _ _ .refl R (.bl _) q
theorem t_inT (hu : X.A.units + 64 < cLine) (ha : XE X a da) (hb : XE X b db) (hm : behindInMarks .In b = false := by rfl) : XT X (.Compare a [.In] [b] pos) (dB (dOp (vInT false) da db)) := xt_cmp (op_inDt hu) inDt_sim ha hb hm
theorem t_notinT (hu : X.A.units + 64 < cLine) (ha : XE X a da) (hb : XE X b db) (hm : behindInMarks .NotIn b = false := by rfl) : XT X (.Compare a [.NotIn] [b] pos) (dB (dOp (vInT true) da db)) := xt_cmp (op_notInDt hu) inDt_sim ha hb hm
/-! ### d.get(k, x) -/
def dGet2 (d0 da dx : DE) : DE := fun env S Q => d0 env S fun x S1 => ∃ p, x = .ref p ∧ ((∃ kvs, S1[p]? = some (.dk kvs)) ∨ ∃ kvs, S1[p]? = some (.dt kvs)) ∧ da env S1 fun y S2 => dx env S2 fun z S3 =>
  (∃ kvs k, S3[p]? = some (.dk kvs) ∧ keyW y = some k ∧ Q ((valW kvs k).getD z) S3) ∨ ∃ kvs j ws k, y = .ref j ∧ S3[p]? = some (.dt kvs) ∧ S3[j]? = some (.tk ws) ∧ keyT ws = some k ∧ Q ((valT kvs k).getD z) S3
theorem m_get2 (hu : X.A.units + 64 < cLine) (h0 : XE X o d0) (ha : XE X e da) (hx : XE X f dx) (m : M2 X o "get" apos e f cpos) : XE X (.Call (.Attribute o "get" apos) [e, f] [] cpos) (dGet2 d0 da dx) := by
  obtain ⟨t0, p0, s0⟩ := h0.ex
  obtain ⟨ta, pa, sa⟩ := ha.ex
  obtain ⟨tx, px, sx⟩ := hx.ex
  refine ⟨_, pe_dget2 (by omega) p0 pa px m, fun r H S s env Q Q0 R E d k => ?_⟩
  refine s0 r H S s env _ _ R E d fun r1 H1 S1 v w e1 R1 pv ⟨p, ew, hd, d1⟩ => ?_
  subst ew
  cases pv with
  | @ref a _ hp =>
    refine ⟨a, rfl, ?_, sa r1 H1 S1 s env _ _ R1 (E.mono e1) d1 fun r2 H2 S2 v2 w2 e2 R2 pv2 d2 => sx r2 H2 S2 s env _ _ R2 (E.mono (e1.trans e2)) d2 fun r3 H3 S3 v3 w3 e3 R3 pv3 d3 => ?_⟩
    · rcases hd with ⟨kvs, h⟩ | ⟨kvs, h⟩
      · obtain ⟨vs, h3, _⟩ := R1.obj p _ _ hp h
        exact .inl ⟨vs, .inl h3⟩
      · obtain ⟨vs, h3, _⟩ := R1.obj p _ _ hp h
        exact .inr ⟨vs, .inl h3⟩
    · have hp3 : r3[p]? = some a := e3.pre _ _ (e2.pre _ _ hp)
      rcases d3 with ⟨kvs, key, h1, hk, q⟩ | ⟨kvs, j, ws, key, ey, h1, h2, hk, q⟩
      · obtain ⟨vs, h3, l⟩ := R3.obj p _ _ hp3 h1
        refine ⟨valV vs key, by rw [rep_key (pv2.mono e3) hk]; exact .k h3, ?_⟩
        obtain ⟨f1, f2⟩ := kv_val (k := key) l
        cases hw : valW kvs key with
        | none =>
          rw [hw] at q
          rw [f2 hw]
          exact k r3 H3 S3 _ _ (e1.trans (e2.trans e3)) R3 pv3 q
        | some w =>
          obtain ⟨v, hv, pv⟩ := f1 w hw
          rw [hw] at q
          rw [hv]
          exact k r3 H3 S3 _ _ (e1.trans (e2.trans e3)) R3 pv q
      · subst ey
        obtain ⟨vs, h3, l⟩ := R3.obj p _ _ hp3 h1
        have pv2b := pv2.mono e3
        cases pv2b with
        | @ref b _ hb =>
          refine ⟨valV vs key, .t h3 (tk_at R3 hb h2 hk), ?_⟩
          obtain ⟨f1, f2⟩ := kt_val (k := key) l
          cases hw : valT kvs key with
          | none =>
            rw [hw] at q
            rw [f2 hw]
            exact k r3 H3 S3 _ _ (e1.trans (e2.trans e3)) R3 pv3 q
          | some w =>
            obtain ⟨v, hv, pv⟩ := f1 w hw
            rw [hw] at q
            rw [hv]
            exact k r3 H3 S3 _ _ (e1.trans (e2.trans e3)) R3 pv q
end
end DL

/-! DM2: list(d.items()), reversed(xs), sorted([()]), xs.index(x). -/
namespace DL
open PySem PySem.Spec PyProof.Rows L2
section
variable {K : Fg} {r : List Addr} {H : Hp} {S : Sto}
/-- the heap has grown, and a new member stands at p -/
theorem ext_grow {H' : Hp} {p : Addr} (hle : ∀ b o, H b = some o → H' b = some o) (hp : H p = none) : Ext K r H (r ++ [p]) H' := by
  refine ⟨⟨fun i a q => ?_, fun b xs q => ?_, fun b o u q => hle b _ q⟩, fun b u q _ => hle b u q, fun b q n => ?_⟩
  · rw [List.getElem?_append_left (List.getElem?_eq_some_iff.mp q).1]
    exact q
  · rcases q with (q | ⟨u, q⟩) | q
    · exact .inl (.inl (hle _ _ q))
    · exact .inl (.inr ⟨u, hle _ _ q⟩)
    · exact .inr q
  · rcases List.mem_append.mp q with m | m
    · exact (n m).elim
    · rw [List.mem_singleton.mp m]
      exact hp
theorem rel_grow (R : RelS K r H S) {H' : Hp} {p : Addr} {o : O} (hle : ∀ b o, H b = some o → H' b = some o) (hp : H p = none) (x : RelO K (r ++ [p]) H' p o) : RelS K (r ++ [p]) H' (S ++ [o]) := by
  refine ⟨by rw [List.length_append, List.length_append, R.len]; rfl, ?_, fun i a ob ha hs => ?_⟩
  · rw [List.nodup_append]
    refine ⟨R.nd, List.nodup_cons.mpr ⟨List.not_mem_nil, List.nodup_nil⟩, fun a ha b hb e => ?_⟩
    rw [List.mem_singleton.mp hb] at e
    exact R.notin hp (e ▸ ha)
  · by_cases l : i < r.length
    · rw [List.getElem?_append_left l] at ha
      rw [List.getElem?_append_left (by rw [← R.len]; exact l)] at hs
      obtain ⟨v, q, _⟩ := R.there ha
      exact relO_mono (ext_grow hle hp) ((hle _ _ q).trans q.symm) (R.obj i a ob ha hs)
    · rw [List.getElem?_append_right (Nat.le_of_not_lt l)] at ha
      rw [List.getElem?_append_right (by rw [← R.len]; exact Nat.le_of_not_lt l), ← R.len] at hs
      cases e : i - r.length with
      | zero =>
        rw [e] at ha hs
        have e1 : p = a := Option.some.inj ha
        have e2 : o = ob := Option.some.inj hs
        rw [← e1, ← e2]
        exact x
      | succ n =>
        rw [e] at ha
        simp at ha
end
section
variable {X : Cx} {a b e f o : Expr} {es : List Expr} {da db d0 dx : DE} {dA : DA} {pos p apos cpos : Pos}
/-! ### list(d.items()) -/
def dItems (d0 : DE) : DE := fun env S Q => d0 env S fun x S1 => match x with
  | .ref i => ∃ kvs, S1[i]? = some (.dk kvs) ∧ Q (.ref S1.length) (S1 ++ [.lst (kvs.map pairW)])
  | _ => False
theorem xe_items (hc : X.calm = true) (h0 : XE X e d0) (hg : Gl X "list") (hm : X.mg "list" = none) (hbase : attributeBase e "items" X.env (eval e X.env) = eval e X.env := by rfl) (hline : (apos.endLine == cpos.line) = true := by rfl)
    (hs : starEach [.Call (.Attribute e "items" apos) [] [] cpos] X.env = (false, eval (.Call (.Attribute e "items" apos) [] [] cpos) X.env) :: starEach [] X.env := by rfl) :
    XE X (.Call (.Name "list" p) [.Call (.Attribute e "items" apos) [] [] cpos] [] pos) (dItems d0) := by
  obtain ⟨t0, p0, s0⟩ := h0.ex
  refine ⟨_, LiI.pe_listItems hc p0 hg hm (by decide +kernel) hbase hline hs, fun r H S s env Q Q0 R E d k => ?_⟩
  refine s0 r H S s env _ _ R E d fun r1 H1 S1 v w e1 R1 pv d1 => ?_
  cases pv <;> try exact d1.elim
  rename_i a i hp
  obtain ⟨kvs, h1, q⟩ := d1
  obtain ⟨vs, h3, l⟩ := R1.obj i _ _ hp h1
  refine ⟨a, vs, rfl, h3, fun H' p ts hle hpn htn hpt hl hts => ?_⟩
  have e2 : Ext X.K r1 H1 (r1 ++ [p]) H' := ext_grow hle hpn
  have go : ∀ {ts : List Addr} {vs : List (Key × V)} {kvs : List (Key × W)}, Paired (fun (t : Addr) (q : Key × V) => H' t = some (.tup [kV q.1, q.2])) ts vs → RelKV X.K r1 H1 vs kvs → RepL X.K (r1 ++ [p]) H' (ts.map V.ref) (kvs.map pairW) := by
    intro ts vs kvs hp
    induction hp generalizing kvs with
    | nil =>
      intro l
      cases kvs with
      | nil => exact .nil
      | cons q kvs =>
        have := l.1
        simp at this
    | cons h t ih =>
      intro l
      cases kvs with
      | nil =>
        have := l.1
        simp at this
      | cons q kvs =>
        obtain ⟨v, vs', e1, pv, l2⟩ := kv_inv l
        obtain ⟨rfl, rfl⟩ := List.cons.inj e1
        exact .cons (.tup (.of h) (.cons (rep_wK _) (.cons (pv.mono e2) .nil))) (ih l2)
  exact k _ _ _ _ _ (e1.trans e2) (rel_grow (o := .lst (kvs.map pairW)) R1 hle hpn ⟨_, hl, go hts l⟩) (rep_mem R1) q
/-! ### reversed(xs) of a list -/
def iReversed (dA : DA) : DI := fun env S Q => dA env S fun us S1 => match us with
  | [.ref i] => ∃ ws, S1[i]? = some (.lst ws) ∧ Q ws.reverse (fun S' => S'[i]? = some (.lst ws)) S1
  | _ => False
theorem xi_reversed {tg : Expr} (hg : Gl X "reversed") (hm : X.mg "reversed" = none) (ha : XA X [e] dA) (hs : starEach [e] X.env = [(false, eval e X.env)] := by rfl) : XI X tg (.Call (.Name "reversed" p) [e] [] pos) (iReversed dA) := by
  obtain ⟨t, pa, sa⟩ := ha.ex
  refine ⟨_, pi_reversed hg hm pa hs, fun r H S st env Q Q0 R E g k => ?_⟩
  refine sa r H S st env _ _ R E g fun r1 H1 S1 vs us e1 R1 q1 d1 => ?_
  cases q1 with
  | nil => exact d1.elim
  | cons pa pb =>
    cases pb with
    | cons _ _ => cases pa <;> exact d1.elim
    | nil =>
      cases pa <;> try exact d1.elim
      rename_i a i hp
      obtain ⟨ws, hi, q⟩ := d1
      obtain ⟨xs, h1, l⟩ := R1.obj i _ _ hp hi
      refine ⟨a, xs, rfl, .of h1, k r1 H1 S1 _ _ _ e1 R1 ?_ q⟩
      have now : ∀ r' H' S', Kp X.K r1 H1 r' H' → RelS X.K r' H' S' → S'[i]? = some (.lst ws) → ∃ ys, H' a = some (.lst ys) ∧ RepL X.K r' H' ys ws := fun r' H' S' e R' st => R'.obj i _ _ (e.pre _ _ hp) st
      refine ⟨fun r' H' S' j x e R' st hx => ?_, fun r' H' S' j e R' st hj => ?_⟩
      · obtain ⟨ys, h2, l2⟩ := now r' H' S' e R' st
        have hj : j < ws.length := by
          have := (List.getElem?_eq_some_iff.mp hx).1
          rwa [List.length_reverse] at this
        have hx2 : ws[ws.length - 1 - j]? = some x := by
          rw [List.getElem?_reverse hj] at hx
          exact hx
        have hl : xs.length = ws.length := l.length
        obtain ⟨v, hv, pv⟩ := l2.get hx2
        refine ⟨⟨by rw [hl]; exact hj, ys, v, .of h2, by rw [hl]; exact hv⟩, fun v' H3 hy => ?_⟩
        obtain ⟨rfl, hall⟩ := hy
        have z := hall ys (.of h2)
        rw [hl, hv] at z
        obtain rfl := Option.some.inj z
        exact ⟨.refl, R', pv⟩
      · show xs.length ≤ j
        rw [l.length]
        rw [List.length_reverse] at hj
        exact hj
end
end DL

/-! DM3: sorted([()]). -/
namespace DL
open PySem PySem.Spec PyProof.Rows L2
section
variable {prog : Program} {w : World} {A : Around} {s : Shared}
theorem sortsNil {v : Value} {as : List Addr} (r : Reads s.heap v (.tuple []) as) (hu : A.units + 8 < cLine) : PySem.W.SortsAt prog w A s (PySem.W.dataKind s.heap [.tuple []]) [v] := by
  have hal : PySem.W.AllAlike [.tuple []] := fun d hd d' hd' => by
    rw [List.mem_singleton.mp hd, List.mem_singleton.mp hd']
    rfl
  refine ⟨fun u hu => ?_, PyProof.Rows.tuples' false, ?_, fun h2 => absurd h2 (by simp)⟩
  · rw [List.mem_singleton.mp hu]
    exact ⟨_, PySem.W.dataKind_some hal (List.mem_singleton.mpr rfl) r⟩
  · intro E x y a b Q ha hb hq
    obtain ⟨d, as, hd, ra, rfl⟩ := PySem.W.dataKind_inv ha
    obtain ⟨d', as', hd', rb, rfl⟩ := PySem.W.dataKind_inv hb
    rw [List.mem_singleton] at hd hd'
    subst hd hd'
    cases ra with
    | tuple h1 h2 h3 h4 =>
      cases rb with
      | tuple k1 k2 k3 k4 =>
        refine PySem.W.kat_lt h1 h3 k1 k3 (PySem.W.katLex_alike [] [] 0 _ _ _ _ h4 k4 rfl (by simp only [PyData.depthAll]; omega) (fun hb => absurd hb Bool.false_ne_true) ?_ hq)
        have n1 := SeqAt.ReadsAll.length _ _ _ h4
        have n2 := SeqAt.ReadsAll.length _ _ _ k4
        rw [Array.length_toList] at n1 n2
        rw [n1, n2]
end
section
variable {X : Cx} {e : Expr} {es : List Expr} {dA : DA} {pos p : Pos}
def rSort1 (K : Fg) : List V → Hp → VK → Prop := fun vs H Q => ∃ (a b : Addr), vs = [.ref a] ∧ SqL K H a [.ref b] ∧ SqT K H b [] ∧ ∀ p, H p = none → Q (.ref p) (upd H p (.lst [.ref b]))
theorem cr_sort1 (hu : X.A.units + 64 < cLine) : CallR X (.builtin "sorted") (rSort1 X.K) := by
  intro pins s σ H vs us Q I r h
  obtain ⟨a, b, rfl, hs, hb, q⟩ := h
  obtain ⟨its, rv, hl, hz⟩ := I.list hs
  rw [Vals.ref1 r]
  cases rv with
  | cons r1 r2 =>
    cases r2
    cases r1
    obtain ⟨jts, rj, hj, _⟩ := I.tuple hb
    cases rj
    obtain ⟨ob, ho, hc, n, hd⟩ := hj
    have rd : Reads s.heap (.ref b) (.tuple []) [] := .tuple ho hc hd .nil
    refine PySem.W.sorted_vals (vs := [.ref b]) hl.isList (sortsNil (s := { s with heap := PySem.W.sortingHeap (PySem.W.copyHeap s.heap [.ref b]) (s.heap.objs.size + 1) [.ref b] }) (PyProof.Rows.Reads.keeps (fun _ _ => PySem.W.sorting_copy_old) rd) (by simp only [Around.in1_units]; omega)) (by rw [sizeLine_eq]; show 1 ≤ _; decide) ?_
    have e1 : PySem.W.sortVals (PySem.W.dataKind (PySem.W.sortingHeap (PySem.W.copyHeap s.heap [.ref b]) (s.heap.objs.size + 1) [.ref b]) [.tuple []]) false [Value.ref b] [.ref b] = [.ref b] := by
      unfold PySem.W.sortVals
      show (List.mergeSort [(Value.ref b, Value.ref b)] _).map Prod.snd = _
      rw [List.mergeSort_singleton]
      rfl
    rw [e1]
    obtain ⟨ep, he'⟩ := PyProof.Rows.sortedAll_at s.heap [.ref b] (List.toArray [.ref b])
    exact ⟨.ref _, upd H (s.heap.objs.size + 1) (.lst [.ref b]), I.laid (t' := s.toks) (fun _ _ => PyProof.Rows.sortedAll_old) (Nat.le_succ _)
      ⟨by rw [sizeLine_eq]; show 1 ≤ _; decide, [.ref b], ep, .cons rfl .nil, he'⟩, rfl, q _ (I.hok.fresh (Nat.le_succ _))⟩
def vSort1 (xs : List W) (S : Sto) (Q : WK) : Prop := match xs with
  | [.ref i] => S[i]? = some (.lst [.tup []]) ∧ Q (.ref S.length) (S ++ [.lst [.tup []]])
  | _ => False
theorem sort1_sim {K : Fg} : SimC K (rSort1 K) vSort1 := by
  intro r H S xs ws Q Q0 R l d k
  cases l with
  | nil => exact d.elim
  | cons p l =>
    cases l with
    | cons p' l' => cases p <;> exact d.elim
    | nil =>
      cases p <;> try exact d.elim
      rename_i a i h
      obtain ⟨h0, q⟩ := d
      obtain ⟨vs, h5, l⟩ := R.obj i _ _ h h0
      cases l with
      | cons p l2 =>
        cases l2
        cases p with
        | @tup b xs _ hb lb =>
          cases lb
          exact ⟨a, b, rfl, .of h5, hb, fun p hp => k _ _ _ _ _ (ext_mem hp) (new_lst R hp (.cons (.tup hb .nil) .nil)) (rep_mem R) q⟩
def vSortE (xs : List W) (S : Sto) (Q : WK) : Prop := vSorted xs S Q ∨ vSort1 xs S Q
theorem c_sortE (hu : X.A.units + 64 < cLine) (hg : Gl X "sorted") (hm : X.mg "sorted" = none) (ha : XA X (e :: es) dA) (he : starEach (e :: es) X.env = (false, eval e X.env) :: starEach es X.env := by rfl) (hpl : (backTo pos (starEach es X.env)).any (·.1) = false := by rfl) : XE X (.Call (.Name "sorted" p) (e :: es) [] pos) (dCB vSortE dA) :=
  xe_callB (CallR.or (cr_sortD hu) (cr_sort1 hu)) (SimC.or sorted_sim sort1_sim) hg hm (by decide +kernel) ha (by decide) (by decide) he hpl
end
end DL

/-! DN: sets of whole numbers and texts (any number below the scan's bound). -/
namespace KS
open PySem PySem.Spec PyProof.Rows L2
/-- a member: the value that stands there, the key that it is -/
abbrev KMem := Value × Key
section
variable {P : Program} {w : World} {A : Around} {E : Value → Shared → Prop} {s : Shared}
def entK (P : Program) (w : World) (m : KMem) : Int × Value := ((mixKind P w).hash m.2, m.1)
structure SetK1 (P : Program) (w : World) (h : Heap) (a : Addr) (M : List KMem) : Prop where
  ex : ∃ o es ep t, h.get? a = some o ∧ o.ExactSet ∧ o.data = .set es ep t ∧ es.toList = M.map (entK P w) ∧ es.size < scanBound ∧ t.fits es.size = true ∧ Ris t.place.toList ∧ (w.params.followText "set-order" = true ∨ t.led = true)
  good : ∀ m ∈ M, RelV (kV m.2) m.1
  uni : (M.map (·.2)).Nodup
variable {a : Addr} {M : List KMem}
theorem SetK1.at {h h' : Heap} (R : SetK1 P w h a M) (k : ∀ o, h.get? a = some o → h'.get? a = some o) : SetK1 P w h' a M := by
  obtain ⟨o, es, ep, t, ho, r⟩ := R.ex
  exact ⟨⟨o, es, ep, t, k o ho, r⟩, R.good, R.uni⟩
theorem scan_kV {k : Key} {u : Value} (r : RelV (kV k) u) : u.scannable = true := by
  cases k <;> (obtain ⟨t, rfl⟩ := r; rfl)
theorem elems_ok {es : Array (Int × Value)} (h : es.toList = M.map (entK P w)) (g : ∀ m ∈ M, RelV (kV m.2) m.1) : ElemsOf (mixKind P w) es.toList := fun e he => by
  rw [h] at he
  obtain ⟨m, hm, rfl⟩ := List.mem_map.mp he
  exact ⟨⟨m.2, kV_is (g m hm), rfl⟩, scan_kV (g m hm)⟩
theorem is_iff {m : KMem} (g : RelV (kV m.2) m.1) (k : Key) : (mixKind P w).is k m.1 = true ↔ m.2 = k :=
  ⟨fun h => (mixKind P w).inj _ _ _ (kV_is g) h, fun h => h ▸ kV_is g⟩
/-- what stands behind the new entry: perhaps the table laid anew -/
theorem storeQ {g : Bool → Sem Unit} (hg : ∀ (b : Bool) (z : Shared) (Q' : Unit → Shared → Prop), Q' () z → wpAny (model P w) A (g b) Q' E z) {o : Obj} {es es1 : Array (Int × Value)} {ep : Nat} {t t1 : SetTable} (ho : s.heap.get? a = some o) (hex : o.ExactSet)
    (hd : o.data = .set es ep t) (h1 : es1.toList = M.map (entK P w)) (good : ∀ m ∈ M, RelV (kV m.2) m.1) (uni : (M.map (·.2)).Nodup) (hb : es1.size < scanBound) (hf : t1.fits es1.size = true) (hr : Ris t1.place.toList)
    (hl : w.params.followText "set-order" = true ∨ t1.led = true) {wd : Bool} {R : Option Bool → Shared → Prop} (q : ∀ h' M', Heap.SameBut a s.heap h' → SetK1 P w h' a M' → M'.Perm M → R (some true) { s with heap := h' }) :
    wpAny (model P w) A (do
      storeSet a es1 t1
      if (!wd && t1.tooFull) = true then do
          g (relayAll t1 es1 (SetTable.grown es1.size)).2.2
          storeSet a (relayAll t1 es1 (SetTable.grown es1.size)).1 (relayAll t1 es1 (SetTable.grown es1.size)).2.1
          pure (some true)
        else pure (some true)) R E s := by
  refine wpAny_bind (wpAny_storeSet_of ho hd ?_ (fits_of_scanBound hb))
  have ho1 := store_at (es' := es1) (t' := t1) ho hd
  have sb := Heap.SameBut.update s.heap a (Obj.putSet es1 t1)
  split
  · have p := relayAll_perm t1 es1 (SetTable.grown es1.size)
    have f2 := relayAll_fits t1 es1 (SetTable.grown es1.size)
    have r2 := relayAll_ris t1 es1 (SetTable.grown es1.size)
    have l2 := relayAll_led t1 es1 (SetTable.grown es1.size)
    generalize relayAll t1 es1 (SetTable.grown es1.size) = Z at p f2 r2 l2 ⊢
    obtain ⟨es2, t2, gv⟩ := Z
    dsimp only at p f2 r2 l2 ⊢
    obtain ⟨M2, pM, e2⟩ := DL.perm_pre p M h1
    have hz : es2.size = es1.size := by rw [← Array.length_toList, p.length_eq, Array.length_toList]
    refine wpAny_bind (hg _ _ _ (wpAny_bind (wpAny_storeSet_of ho1 rfl ?_ (fits_of_scanBound (by rw [hz]; exact hb)))))
    refine wpAny_pure (q _ M2 (sb.trans (Heap.SameBut.update _ a _)) ⟨⟨_, es2, _, t2, store_at (es' := es2) (t' := t2) ho1 rfl, hex, rfl, e2, by rw [hz]; exact hb, f2, r2, hl.imp id fun z => by rw [l2]; exact z⟩, fun m hm => good m (pM.mem_iff.mp hm), (pM.map (·.2)).nodup_iff.mpr uni⟩ pM)
  · exact wpAny_pure (q _ M sb ⟨⟨_, es1, _, t1, ho1, hex, rfl, h1, hb, hf, hr, hl⟩, good, uni⟩ (List.Perm.refl _))
theorem addK {x : Value} {k : Key} (R : SetK1 P w s.heap a M) (hx : RelV (kV k) x) (few : M.length + 1 < scanBound) {Q : Bool → Shared → Prop}
    (q : ∀ b h' M', Heap.SameBut a s.heap h' → SetK1 P w h' a M' → (k ∈ M.map (·.2) → M' = M) → (k ∉ M.map (·.2) → M'.Perm ((x, k) :: M)) → Q b { s with heap := h' }) :
    wpAny (model P w) A (setAddHashed a x ((mixKind P w).hash k)) Q E s := by
  obtain ⟨o, es, ep, t, ho, hex, hd, h1, hb, hf, hr, hl⟩ := R.ex
  have hel := elems_ok h1 R.good
  have hkey : (mixKind P w).is k x = true := kV_is hx
  have hsc := scan_kV hx
  have hz : es.size = M.length := by rw [← Array.length_toList, h1, List.length_map]
  unfold setAddHashed setAddHashedIn
  refine wpAny_holding (wpAny_bind (wpAny_setState_of ho hd hf ?_))
  dsimp only
  rw [byScan_of hsc hb hel]
  simp only [↓reduceIte]
  unfold setAddByScan
  refine wpAny_bind (wpAny_bind (wpAny_rule (wpAny_bind (wpAny_setScan_of hkey ho hd hf hel ?_))))
  cases hfi : List.findIdx? (fun e => (mixKind P w).is k e.2) es.toList with
  | some j =>
    dsimp only
    obtain ⟨hj, pj, _⟩ := List.findIdx?_eq_some_iff_getElem.mp hfi
    have hm : es.toList[j] ∈ M.map (entK P w) := by rw [← h1]; exact List.getElem_mem hj
    obtain ⟨m, hm1, em⟩ := List.mem_map.mp hm
    rw [← em] at pj
    have hk : m.2 = k := (is_iff (R.good m hm1) k).mp pj
    exact wpAny_pure (wpAny_pure (q false s.heap M (Heap.SameBut.refl a s.heap) R (fun _ => rfl) fun z => absurd (List.mem_map.mpr ⟨m, hm1, hk⟩) z))
  | none =>
    dsimp only
    have hnk : k ∉ M.map (·.2) := fun z => by
      obtain ⟨m, hm, e⟩ := List.mem_map.mp z
      have c := List.findIdx?_eq_none_iff.mp hfi (entK P w m) (by rw [h1]; exact List.mem_map.mpr ⟨m, hm, rfl⟩)
      have c2 : (mixKind P w).is k m.1 = false := c
      rw [(is_iff (R.good m hm) k).mpr e] at c2
      cases c2
    have gave : ∀ (b : Bool) {z : Shared} {Q' : Unit → Shared → Prop}, Q' () z → wpAny (model P w) A (match b with | true => rule "set.scan.the-table-gave-way" | false => pure ()) Q' E z := fun b z Q' h => by
      cases b <;> first | exact wpAny_pure h | exact wpAny_rule h
    have pm := layNew_perm t es ((mixKind P w).hash k) x
    have f1 := layNew_fits t es ((mixKind P w).hash k) x
    have r1 := layNew_ris t es ((mixKind P w).hash k) x hr
    have l1 := layNew_led t es ((mixKind P w).hash k) x
    generalize layNew t es ((mixKind P w).hash k) x = Z at pm f1 r1 l1 ⊢
    obtain ⟨es1, t1, wd, gv⟩ := Z
    dsimp only at pm f1 r1 l1 ⊢
    rw [Array.toList_push] at pm
    have pc : es1.toList.Perm (entK P w (x, k) :: es.toList) := pm.trans (List.perm_append_singleton _ _)
    rw [h1] at pc
    obtain ⟨M1, pM, e1⟩ := DL.perm_pre pc ((x, k) :: M) rfl
    have hz1 : es1.size = M.length + 1 := by rw [← Array.length_toList, pc.length_eq, List.length_cons, List.length_map]
    have hb1 : es1.size < scanBound := by rw [hz1]; exact few
    have good1 : ∀ m ∈ M1, RelV (kV m.2) m.1 := fun m hm => by
      rcases List.mem_cons.mp (pM.mem_iff.mp hm) with e | h
      · rw [e]
        exact hx
      · exact R.good m h
    have uni1 : (M1.map (·.2)).Nodup := (pM.map (·.2)).nodup_iff.mpr (List.nodup_cons.mpr ⟨hnk, R.uni⟩)
    have led1 : w.params.followText "set-order" = true ∨ t1.led = true := hl.imp id fun z => by rw [l1]; exact z
    refine wpAny_bind (gave _ ?_)
    have fin : ∀ h' M', Heap.SameBut a s.heap h' → SetK1 P w h' a M' → M'.Perm M1 → Q true { s with heap := h' } := fun h' M' sb r p => q true h' M' sb r (fun z => absurd z hnk) fun _ => p.trans pM
    split
    · refine wpAny_bind ?_
      rw [hashByValue_scannable 8 hsc]
      refine wpAny_pure ?_
      cases plainKind x
      · refine storeQ (t1 := { t1 with plain := false }) ?_ ho hex hd e1 good1 uni1 hb1 (SetTable.fits_plain_off f1) r1 led1 fun h' M' sb r p => ?_
        · intro b z Q' h
          cases b <;> first | exact wpAny_pure h | exact wpAny_rule h
        · dsimp only
          exact wpAny_pure (fin h' M' sb r p)
      · refine storeQ ?_ ho hex hd e1 good1 uni1 hb1 f1 r1 led1 fun h' M' sb r p => ?_
        · intro b z Q' h
          cases b <;> first | exact wpAny_pure h | exact wpAny_rule h
        · dsimp only
          exact wpAny_pure (fin h' M' sb r p)
    · refine wpAny_bind (wpAny_pure ?_)
      simp only [↓reduceIte]
      refine storeQ ?_ ho hex hd e1 good1 uni1 hb1 f1 r1 led1 fun h' M' sb r p => ?_
      · intro b z Q' h
        cases b <;> first | exact wpAny_pure h | exact wpAny_rule h
      · dsimp only
        exact wpAny_pure (fin h' M' sb r p)
end
end KS

/-! DN2: sorted(set(xs)), xs whole numbers or texts. -/
namespace KS
open PySem PySem.Spec PyProof.Rows L2 DL
section
variable {P : Program} {w : World} {A : Around} {E : Value → Shared → Prop} {s : Shared}
theorem freshK {h : Heap} {a : Addr} (ho : h.get? a = some (NS.newSet w)) : SetK1 P w h a [] :=
  ⟨⟨_, #[], 0, _, ho, ⟨rfl, rfl, rfl⟩, rfl, rfl, by decide, rfl, List.Pairwise.nil, by
    show _ ∨ (!w.params.followText "set-order") = true
    cases w.params.followText "set-order"
    · exact .inr rfl
    · exact .inl rfl⟩, (by intro m hm; cases hm), List.nodup_nil⟩
abbrev keyKd (P : Program) (w : World) : NS.SetKd P w where
  μ := KMem
  κ := Key
  key := (·.2)
  val := (·.1)
  Is _ m := RelV (kV m.2) m.1
  At h a M := SetK1 P w h a M
  keepI := fun x _ => x
  keepA := fun R k _ => R.at k
  fresh := freshK
  add := fun {A E s a M m Q} R hm hu few q => by
    unfold setAdd
    refine wpAny_holding (wpAny_bind ((mixKind P w).pyHash (kV_is hm) ?_))
    exact addK (s := { s with toks := s.toks + 1 }) R hm (by unfold scanBound; omega) fun b h' M' sb R' c1 c2 => q b h' _ M' (Nat.le_add_right _ _) sb R' c1 c2
def SetKO (P : Program) (w : World) (a : Addr) (M : List KMem) : HO := .ext fun h => SetK1 P w h a M
theorem setKO_ok {H : Hp} {h : Heap} {a : Addr} {M : List KMem} (R : SetK1 P w h a M) : ObjOk P w H h a (SetKO P w a M) := by
  obtain ⟨o, es, ep, t, ho, r⟩ := R.ex
  exact ⟨R, ⟨o, ho⟩, fun h1 h2 x k => x.at k⟩
/-- found.add(x) -/
theorem setAddCall {a : Addr} {M : List KMem} {x : Value} {k : Key} {Q : Value → Shared → Prop} (R : SetK1 P w s.heap a M) (hx : RelV (kV k) x) (few : M.length + 1 < scanBound)
    (q : ∀ h' tk M', Heap.SameBut a s.heap h' → SetK1 P w h' a M' → (k ∈ M.map (·.2) → M' = M) → (k ∉ M.map (·.2) → M'.Perm ((x, k) :: M)) → Q .none { s with heap := h', toks := tk }) :
    wpAny (model P w) A (call (.builtin "set.add") [.ref a, x]) Q E s := by
  obtain ⟨o, es, ep, t, ho, hex, _⟩ := R.ex
  have hT : s.TypeIs (.ref a) "set" := ⟨o, ho, hex.1⟩
  refine wpAny_call_entry F.slot_set_add hT F.entry_set_add ?_ (F.args_set_add_2 _ _)
  unfold Builtin.«set.add» Builtin.Frozenset.oneOther
  simp only [List.isEmpty_nil, bind_assoc]
  unfold Builtin.Frozenset.addrOf setAdd
  refine wpAny_bind (wpAny_pure ?_)
  try dsimp only
  refine wpAny_bind (wpAny_pure ?_)
  try dsimp only
  refine wpAny_bind (wpAny_holding (wpAny_bind ((mixKind P w).pyHash (kV_is hx) ?_)))
  refine addK (s := { s with toks := s.toks + 1 }) R hx few fun b h' M' sb R' c1 c2 => ?_
  show wpAny _ _ (ret Value.none) _ _ _
  exact wpAny_pure ⟨_, rfl, q h' _ M' sb R' c1 c2⟩
end
def datK : Key → PyData
  | .inl i => .int i
  | .inr x => .str x
theorem datW_wK (k : Key) : datW (wK k) = datK k := by cases k <;> rfl
theorem readsK {h : Heap} {k : Key} {v : Value} (r : RelV (kV k) v) : Reads h v (datK k) [] := by
  cases k with
  | inl i =>
    obtain ⟨t, rfl⟩ := r
    exact .int _ _
  | inr x =>
    obtain ⟨t, rfl⟩ := r
    exact .str _ _
/-- all are whole numbers, or all are texts -/
def AlikeK (ks : List Key) : Prop := ∀ a ∈ ks, ∀ b ∈ ks, PySem.W.alike (datK a) (datK b) = true
theorem sortableK (ks : List Key) : PySem.W.Sortable (ks.map datK) := .inr fun d hd => by
  obtain ⟨k, _, rfl⟩ := List.mem_map.mp hd
  cases k <;> exact ⟨fun e => PyData.noConfusion e, fun xs e => PyData.noConfusion e⟩
section
variable {X : Cx}
def rSetK (K : Fg) (P : Program) (w : World) : List V → Hp → VK → Prop := fun xs H Q => ∃ (l : Addr) (ks : List Key), xs = [.ref l] ∧ SqL K H l (ks.map kV) ∧ ks.length < 64 ∧
  ∀ (a : Addr) (M : List KMem), H a = none → (∀ m ∈ M, m.2 ∈ ks) → (∀ k ∈ ks, k ∈ M.map (·.2)) → (M.map (·.2)).Nodup → M.length < 64 → Q (.ref a) (upd H a (SetKO P w a M))
theorem zip_keys : ∀ {ks : List Key} {us : List Value}, Vals (ks.map kV) us → (us.zip ks).map (·.1) = us ∧ (us.zip ks).map (·.2) = ks ∧ ∀ m ∈ us.zip ks, RelV (kV m.2) m.1
  | [], _, .nil => ⟨rfl, rfl, by intro m hm; cases hm⟩
  | k :: ks, u :: us, .cons r t => by
    obtain ⟨e1, e2, h⟩ := zip_keys t
    refine ⟨congrArg (u :: ·) e1, congrArg (k :: ·) e2, fun m hm => ?_⟩
    rcases List.mem_cons.mp hm with e | hm
    · rw [e]
      exact r
    · exact h m hm
theorem cr_setK (hc : X.calm = true) (hu : X.A.units + 64 < cLine) : CallR X (.type "set") (rSetK X.K X.prog X.w) := by
  intro pins s σ H xs us Q I r h
  obtain ⟨l, ks, rfl, hl, few, q⟩ := h
  rw [Vals.ref1 r]
  obtain ⟨its, rv, pl, hz⟩ := I.list hl
  have hn : H s.heap.objs.size = none := I.hok.fresh (Nat.le_refl _)
  obtain ⟨z1, z2, z3⟩ := zip_keys rv
  have hit : its.toArray.toList = (its.zip ks).map (·.1) := by rw [z1]
  have hlen : (its.zip ks).length = ks.length := by
    have z := congrArg List.length z2
    rwa [List.length_map] at z
  generalize its.zip ks = ms at z1 z2 z3 hit hlen
  refine NS.setCall (keyKd X.prog X.w) ms (I.ok.hd hc) pl.isList hit z3 (by omega) (by omega) fun h' tk M R g k => ?_
  have sub : ∀ m ∈ M, m.2 ∈ ks := fun m hm => by
    rw [← z2]
    exact List.mem_map.mpr ⟨m, List.mem_of_mem_take (g.sub m hm), rfl⟩
  refine ⟨.ref s.heap.objs.size, upd H s.heap.objs.size (SetKO X.prog X.w s.heap.objs.size M), I.laid (t' := tk) k (Nat.le_refl _) (setKO_ok R), rfl, q _ M hn sub (fun b hb => ?_) R.uni (by have := g.len; omega)⟩
  rw [← z2] at hb
  obtain ⟨m, hm, rfl⟩ := List.mem_map.mp hb
  exact g.all m (by rw [List.take_of_length_le (Nat.le_refl _)]; exact hm)
def rSortK (K : Fg) (P : Program) (w : World) : List V → Hp → VK → Prop := fun xs H Q => ∃ (a : Addr) (M : List KMem), xs = [.ref a] ∧ H a = some (SetKO P w a M) ∧ AlikeK (M.map (·.2)) ∧ M.length < 4096 ∧
  ∀ (us : List Key) (p : Addr), us.Perm (M.map (·.2)) → H p = none → Q (.ref p) (upd H p (.lst ((us.mergeSort (PySem.W.dataLe false datK)).map kV)))
theorem vals_keys {ks : List Key} : ∀ {us : List Value}, PySem.W.EachIs (fun (v : Value) (b : Key) => RelV (kV b) v) us ks → Vals (ks.map kV) us := fun h => by
  induction h with
  | nil => exact .nil
  | cons r t ih => exact .cons r ih
theorem cr_sortK (hc : X.calm = true) (hu : X.A.units + 80 < cLine) : CallR X (.builtin "sorted") (rSortK X.K X.prog X.w) := by
  intro pins s σ H xs us Q I r h
  obtain ⟨a, M, rfl, ha, al, few, q⟩ := h
  rw [Vals.ref1 r]
  have R : SetK1 X.prog X.w s.heap a M := (I.hok a _ ha).1
  obtain ⟨o, es, ep, t, ho, hex, hd, ents, hb, hf, hr, hled⟩ := R.ex
  refine Calls.call_function_entry kind_sorted plain_sorted entry_sorted (args_sorted1 _) ?_
  unfold Builtin.«sorted»
  refine wpAny_bind (m := checkCount "sorted" 1 1 _) (wpAny_pure ?_)
  refine wpAny_bind (collect_set (A := X.A.in1) (I.ok.hd hc) ⟨o, ho, hex.1, hd⟩ hf hb hr hled fun s1 vs k1 hz g1 o1 pm => ?_)
  have hes : es.toList.map (·.2) = M.map (·.1) := by
    rw [ents, List.map_map]
    rfl
  rw [hes] at pm
  obtain ⟨N, hN, rfl⟩ := perm_pre pm M rfl
  have hNl : N.length < 4096 := by rw [hN.length_eq]; exact few
  have good : ∀ m ∈ N, RelV (kV m.2) m.1 := fun m hm => R.good m (hN.mem_iff.mp hm)
  refine wpAny_bind (wpAny_newList ?_ (by rw [List.length_map, sizeLine_eq]; omega))
  have hoL : (s1.heap.push { cls := .type "list", data := .seq (N.map (·.1)).toArray }).get? s1.heap.objs.size = some (seqObj "list" (N.map (·.1)).toArray 0) := Heap.get?_push_size _ rfl
  have k2 : ∀ b o, s.heap.get? b = some o → (s1.heap.push { cls := .type "list", data := .seq (N.map (·.1)).toArray }).get? b = some o := fun b o e => Heap.get?_push_of_some _ (k1 b o e)
  have ea : ∀ {N : List KMem}, (∀ m ∈ N, RelV (kV m.2) m.1) → PySem.W.EachIs (fun (v : Value) (b : Key) => RelV (kV b) v) (N.map (·.1)) (N.map (·.2)) := by
    intro N
    induction N with
    | nil => intro _; exact .nil
    | cons m N ih => intro h; exact .cons (h m List.mem_cons_self) (ih fun x hx => h x (List.mem_cons_of_mem _ hx))
  have er : ∀ {h : Heap} {n : Addr} {N : List KMem}, (∀ m ∈ N, RelV (kV m.2) m.1) → PySem.W.EachIs (fun (v : Value) (b : Key) => ∃ as, Reads h v (datK b) as ∧ n ∉ as) (N.map (·.1)) (N.map (·.2)) := by
    intro h n N
    induction N with
    | nil => intro _; exact .nil
    | cons m N ih => intro hh; exact .cons ⟨[], readsK (hh m List.mem_cons_self), List.not_mem_nil⟩ (ih fun x hx => hh x (List.mem_cons_of_mem _ hx))
  have hal : PySem.W.AllAlike ((N.map (·.2)).map datK) := fun d hd d' hd' => by
    obtain ⟨a, ha, rfl⟩ := List.mem_map.mp hd
    obtain ⟨b, hb, rfl⟩ := List.mem_map.mp hd'
    exact al a ((hN.map (·.2)).mem_iff.mp ha) b ((hN.map (·.2)).mem_iff.mp hb)
  refine wpAny_bind (wpAny_holding (PySem.W.list_sort_data (s := { s1 with heap := s1.heap.push { cls := .type "list", data := .seq (N.map (·.1)).toArray } }) hoL (ea good) (er good) hal (sortableK _)
    (by rw [List.length_map, sizeLine_eq]; omega) (fun b hb => by cases b <;> (simp only [Around.in1_units, datK, PyData.depth]; omega)) fun out ho2 eo => ?_))
  obtain ⟨c, hg⟩ := sortedHeap_at (vs := N.map (·.1)) (out := out.toArray) hoL
  have hn : H s1.heap.objs.size = none := I.hok.fresh hz
  have k3 : ∀ b o, s.heap.get? b = some o → (sortedHeap (s1.heap.push { cls := .type "list", data := .seq (N.map (·.1)).toArray }) s1.heap.objs.size (N.map (·.1)) out.toArray).get? b = some o := fun b o e => by
    have hlt := Heap.lt_size (k1 b o e)
    rw [sortedHeap_old (Nat.ne_of_lt hlt) (by rw [size_push']; exact Nat.lt_succ_of_lt hlt)]
    exact k2 b o e
  have J := I.call (g' := s1.gens) (d' := s1.drawn) (t' := s1.toks) (ch := []) (Un.laid k3 hz hn) (I.hok.laid (o := .lst (((N.map (·.2)).mergeSort (PySem.W.dataLe false datK)).map kV)) k3 hz
    ⟨by rw [List.length_map, List.length_mergeSort, List.length_map, sizeLine_eq]; omega, out, c, vals_keys eo, hg⟩) (by rw [g1]; exact I.bare) (fun _ z => nomatch z)
  refine wpAny_pure ⟨_, rfl, ?_⟩
  have e : s1.os = s.os := o1
  obtain ⟨h1, gg, dd, tt, oo⟩ := s1
  obtain rfl : oo = s.os := e
  exact ⟨.ref h1.objs.size, _, J, rfl, q (N.map (·.2)) _ (hN.map (·.2)) hn⟩
end
end KS

/-! DO: set comprehensions of two clauses whose items are whole numbers or texts. -/
namespace KS
open PySem PySem.Spec PyProof.Rows L2 DL
abbrev sc2 (elt t0 i0 t1 i1 : Expr) (f0 f1 : List Expr) (sc : Scope) (pos : Pos) : Expr := .SetComp elt [⟨t0, i0, f0, 0⟩, ⟨t1, i1, f1, 0⟩] sc pos
section
variable {elt t0 i0 t1 i1 : Expr} {f0 f1 : List Expr} {sc : Scope} {pos : Pos} {it acc : Value} {env : PySem.Env}
theorem turnOut : compTurn (sc2 elt t0 i0 t1 i1 f0 f1 sc pos) 0 it acc env = (do
      standAt i0.pos
      match ← pyNext it with
      | none => pure (.done .next)
      | some v =>
        letOwnedTupleGo t0 it v
        assign t0 env v
        let mut go := true
        for c in f0 do
          if go then go ← isTrue c env (eval c env)
        if go then
          let x ← eval i1 env
          standAt i1.pos
          let x ← foldedSetIterable i1 env x
          let _ ← runOwn (.compStart (sc2 elt t0 i0 t1 i1 f0 f1 sc pos) 1 (← holding [x] (pyIter x)) acc env) env
        again (.compLoop (sc2 elt t0 i0 t1 i1 f0 f1 sc pos) 0 it acc env)) := by rfl
theorem turnIn : compTurn (sc2 elt t0 i0 t1 i1 f0 f1 sc pos) 1 it acc env = (do
      standAt i1.pos
      match ← pyNext it with
      | none => pure (.done .next)
      | some v =>
        letOwnedTupleGo t1 it v
        assign t1 env v
        let mut go := true
        for c in f1 do
          if go then go ← isTrue c env (eval c env)
        if go then
          (do let v ← eval elt env; standAt elt.pos; let _ ← call (.builtin "set.add") [acc, v])
        again (.compLoop (sc2 elt t0 i0 t1 i1 f0 f1 sc pos) 1 it acc env)) := by rfl
variable {P : Program} {w : World} {A : Around} {R : Result → Shared → Prop} {s : Shared}
/-- the tests of a clause -/
abbrev testsOf (fs : List Expr) (env : PySem.Env) : Sem Bool := forIn fs true fun c r => if r = true then do let ok ← isTrue c env (eval c env); pure (ForInStep.yield ok) else pure (ForInStep.yield r)
theorem loopOut (hs : ∀ x, foldedSetIterable i1 env x = pure x) (I : Nat → Shared → Prop)
    (step : ∀ n z, I n z → wpAny (model P w) A (pyNext it) (fun r z1 => match r with
      | none => R (.ok .next) z1
      | some v => wpAny (model P w) A (letOwnedTupleGo t0 it v) (fun _ z2 => wpAny (model P w) A (assign t0 env v) (fun _ z3 => wpAny (model P w) A (testsOf f0 env) (fun go z4 =>
            if go = true then wpAny (model P w) A (eval i1 env) (fun x z5 => wpAny (model P w) A (pyIter x) (fun jt z6 =>
              codeAny (model P w) A (.compStart (sc2 elt t0 i0 t1 i1 f0 f1 sc pos) 1 jt acc env) (fun r z7 => match r with
                | .ok _ => ∃ m, m < n ∧ I m z7
                | .error _ => False) z6) (notedBy (model P w) A env fun e z' => R (.error e) z') z5) (notedBy (model P w) A env fun e z' => R (.error e) z') z4
            else ∃ m, m < n ∧ I m z4) (notedBy (model P w) A env fun e z' => R (.error e) z') z3) (notedBy (model P w) A env fun e z' => R (.error e) z') z2) (notedBy (model P w) A env fun e z' => R (.error e) z') z1) (notedBy (model P w) A env fun e z' => R (.error e) z') z)
    (n : Nat) (h : I n s) : codeAny (model P w) A (.compLoop (sc2 elt t0 i0 t1 i1 f0 f1 sc pos) 0 it acc env) R s := by
  refine codeAny_loop rfl I (fun n z hI => ?_) n h
  show wpAny _ A ((compTurn (sc2 elt t0 i0 t1 i1 f0 f1 sc pos) 0 it acc env).onRaise (fun x => do noteFrame x env; theTreesLotGoes x)) _ _ z
  refine wpAny_noted ?_
  rw [turnOut]
  refine wpAny_bind (wpAny_standAt (wpAny_bind (wpAny_mono (step n z hI) (fun r z1 h1 => ?_) fun _ _ x => x)))
  cases r with
  | none => exact wpAny_pure h1
  | some v =>
    refine wpAny_bind (wpAny_mono h1 (fun _ z2 h2 => wpAny_bind (wpAny_mono h2 (fun _ z3 h3 => wpAny_bind (wpAny_mono h3 (fun go z4 h4 => ?_) fun _ _ x => x)) fun _ _ x => x)) fun _ _ x => x)
    cases go with
    | false => exact wpAny_pure ⟨rfl, h4⟩
    | true =>
      refine wpAny_bind (wpAny_mono h4 (fun x z5 h5 => ?_) fun _ _ x => x)
      refine wpAny_bind (wpAny_standAt (wpAny_bind (wpAny_of_eq (hs x) (wpAny_bind (wpAny_holding (wpAny_mono h5 (fun jt z6 h6 => ?_) fun _ _ x => x))))))
      refine wpAny_bind (wpAny_runOwn ?_)
      rw [Around.mark_none]
      refine codeAny_mono h6 fun r z7 hr => ?_
      cases r with
      | ok f => first | exact wpAny_pure ⟨rfl, hr⟩ | exact wpAny_bind (wpAny_pure (wpAny_pure ⟨rfl, hr⟩))
      | error e => exact hr.elim
theorem loopIn (I : Nat → Shared → Prop)
    (step : ∀ n z, I n z → wpAny (model P w) A (pyNext it) (fun r z1 => match r with
      | none => R (.ok .next) z1
      | some v => wpAny (model P w) A (letOwnedTupleGo t1 it v) (fun _ z2 => wpAny (model P w) A (assign t1 env v) (fun _ z3 => wpAny (model P w) A (testsOf f1 env) (fun go z4 =>
            if go = true then wpAny (model P w) A (eval elt env) (fun x z5 => wpAny (model P w) A (call (.builtin "set.add") [acc, x]) (fun _ z6 => ∃ m, m < n ∧ I m z6) (notedBy (model P w) A env fun e z' => R (.error e) z') z5) (notedBy (model P w) A env fun e z' => R (.error e) z') z4
            else ∃ m, m < n ∧ I m z4) (notedBy (model P w) A env fun e z' => R (.error e) z') z3) (notedBy (model P w) A env fun e z' => R (.error e) z') z2) (notedBy (model P w) A env fun e z' => R (.error e) z') z1) (notedBy (model P w) A env fun e z' => R (.error e) z') z)
    (n : Nat) (h : I n s) : codeAny (model P w) A (.compLoop (sc2 elt t0 i0 t1 i1 f0 f1 sc pos) 1 it acc env) R s := by
  refine codeAny_loop rfl I (fun n z hI => ?_) n h
  show wpAny _ A ((compTurn (sc2 elt t0 i0 t1 i1 f0 f1 sc pos) 1 it acc env).onRaise (fun x => do noteFrame x env; theTreesLotGoes x)) _ _ z
  refine wpAny_noted ?_
  rw [turnIn]
  refine wpAny_bind (wpAny_standAt (wpAny_bind (wpAny_mono (step n z hI) (fun r z1 h1 => ?_) fun _ _ x => x)))
  cases r with
  | none => exact wpAny_pure h1
  | some v =>
    refine wpAny_bind (wpAny_mono h1 (fun _ z2 h2 => wpAny_bind (wpAny_mono h2 (fun _ z3 h3 => wpAny_bind (wpAny_mono h3 (fun go z4 h4 => ?_) fun _ _ x => x)) fun _ _ x => x)) fun _ _ x => x)
    cases go with
    | false => exact wpAny_pure ⟨rfl, h4⟩
    | true => exact wpAny_bind (wpAny_bind (wpAny_mono h4 (fun x z5 h5 => wpAny_bind (wpAny_standAt (wpAny_bind (wpAny_mono h5 (fun _ z6 h6 => wpAny_pure (wpAny_pure ⟨rfl, h6⟩)) fun _ _ x => x)))) fun _ _ x => x))
theorem startIn (h0 : codeAny (model P w) A (.compLoop (sc2 elt t0 i0 t1 i1 f0 f1 sc pos) 1 it acc env) R s)
    (h : wpAny (model P w) A (pyIter it) (fun jt z => codeAny (model P w) A (.compLoop (sc2 elt t0 i0 t1 i1 f0 f1 sc pos) 1 jt acc env) R z) (notedBy (model P w) A env fun x z => R (.error x) z) s) : codeAny (model P w) A (.compStart (sc2 elt t0 i0 t1 i1 f0 f1 sc pos) 1 it acc env) R s := by
  refine codeAny_of_tree ?_
  show wpAny _ _ ((compStart (sc2 elt t0 i0 t1 i1 f0 f1 sc pos) 1 it acc env).onRaise (fun x => do noteFrame x env; standAt theWindowsPlace)) _ _ s
  refine wpAny_notedAt ?_
  unfold compStart
  show wpAny _ _ (ask >>= _) _ _ s
  refine wpAny_bind (wpAny_askSetting (wpAny_ite ?_))
  split
  · first | exact wpAny_bind (wpAny_pure (wpAny_pure (And.intro rfl h0))) | exact wpAny_pure (And.intro rfl h0)
  · first
      | exact wpAny_bind (wpAny_rule (wpAny_bind (wpAny_standAt (wpAny_bind (wpAny_mono h (fun jt z hz => wpAny_pure (And.intro rfl hz)) fun _ _ x => x)))))
      | (refine wpAny_bind (wpAny_rule ?_); show wpAny _ _ (standAt i1.pos >>= _) _ _ s; exact wpAny_bind (wpAny_standAt (wpAny_bind (wpAny_mono h (fun jt z hz => wpAny_pure (And.intro rfl hz)) fun _ _ x => x))))
end
section
variable {X : Cx} {pins : List (Addr × Obj)} {σ : L2.St} {H : Hp} {s : Shared}
/-- what the set holds behind the adding of k -/
def Added (k : Key) (M M' : List KMem) : Prop := (k ∈ M.map (·.2) → M' = M) ∧ (k ∉ M.map (·.2) → ∃ u, M'.Perm ((u, k) :: M))
theorem add_in {E : Value → Shared → Prop} {D : Addr} {M : List KMem} {k : Key} {z : Value} {Q : Value → Shared → Prop} (I : Inv X pins σ H s) (hD : H D = some (SetKO X.prog X.w D M)) (few : M.length + 1 < 4096) (r : RelV (kV k) z)
    (q : ∀ M' s', Added k M M' → Inv X pins σ (upd H D (SetKO X.prog X.w D M')) s' → Q .none s') : wpAny (model X.prog X.w) X.A (call (.builtin "set.add") [.ref D, z]) Q E s := by
  refine setAddCall (I.hok D _ hD).1 r few fun h' tk M' sb R c1 c2 => ?_
  have he : ∃ u, h'.get? D = some u := by
    obtain ⟨o, _, _, _, ho, _⟩ := R.ex
    exact ⟨o, ho⟩
  exact q M' _ ⟨c1, fun n => ⟨z, c2 n⟩⟩ (I.write (e := D) (t' := tk) (by rw [hD]; trivial) (.inl rfl) (fun b u hb hu => (sb.2 b hb).trans hu) he (setKO_ok R))
/-- {elt for tg in iter if .. for tg1 in iter1 if ..}: D is the new set -/
def tSc2 (P : Program) (w : World) (wi : TI) (g : TG) (tt : TT) (wi1 : TI) (g1 : TG) (tt1 : TT) (te : TE) (vs vs1 : List Nat) : TE := fun σ H Q => wi σ H fun J H1 => ∀ D, H1 D = none → ∃ W : Nat → Nat → Hp → Prop, (∃ m, W 0 m (upd H1 D (SetKO P w D []))) ∧ ∀ i m H, W i m H →
  (J.stop i H ∧ Q (.ref D) H) ∨ (J.go i H ∧ ∃ N : Hp → Prop, (∀ H', N H' → ∃ m', m' < m ∧ W (i + 1) m' H') ∧ ∀ x H', J.yld i H x H' → g x (wipe σ vs) H' fun σ2 H2 => wipe σ2 vs = wipe σ vs ∧ tt σ2 H2 fun b H3 =>
    if b = true then wi1 σ2 H3 fun J1 H4 => ∃ W1 : Nat → Nat → Hp → Prop, (∃ m, W1 0 m H4) ∧ ∀ j k H, W1 j k H →
      (J1.stop j H ∧ N H) ∨ (J1.go j H ∧ ∃ N1 : Hp → Prop, (∀ H', N1 H' → ∃ k', k' < k ∧ W1 (j + 1) k' H') ∧ ∀ x H', J1.yld j H x H' → g1 x (wipe σ2 vs1) H' fun σ3 H5 => wipe σ3 vs1 = wipe σ2 vs1 ∧ tt1 σ3 H5 fun b H6 =>
        if b = true then te σ3 H6 fun y H7 => ∃ (k : Key) (M : List KMem), y = kV k ∧ H7 D = some (SetKO P w D M) ∧ M.length + 1 < 4096 ∧ ∀ M', Added k M M' → N1 (upd H7 D (SetKO P w D M')) else N1 H6)
    else N H3)
end
end KS

/-! DO2: the block of a set comprehension of two clauses. -/
namespace KS
open PySem PySem.Spec PyProof.Rows L2 DL
section
variable {X : Cx}
theorem sc2_core {pins : List (Addr × Obj)} {s : Shared} {σ : L2.St} {H : Hp} {Q : VK} {elt tg iter tg1 iter1 : Expr} {ifs ifs1 : List Expr} {sc : Scope} {own : List (PySem.Str × Nat)} {vs1 : List Nat} {pos pos' : Pos} {wi wi1 : TI} {g g1 : TG} {tt tt1 : TT} {te : TE} {use : Option (Value → Sem Unit)} {Qf : Value → Shared → Prop}
    (hc : X.calm = true) (hN : X.N.Nodup) (I : Inv X pins σ H s) (hi : PI X tg iter wi) (ok : BlkOk X.N X.env.scope sc own) (hv : ∀ i ∈ vs1, i ∈ own.map (·.2))
    (hg : ∀ (s : Shared) (H : Hp) (C : Addr) (cl : List (PySem.Str × Addr)) (fp : List Addr), PG (X.blk s H sc (compEnvC sc cl C X.env) fp) tg g)
    (ht : ∀ (s : Shared) (H : Hp) (C : Addr) (cl : List (PySem.Str × Addr)) (fp : List Addr), PTs (X.blk s H sc (compEnvC sc cl C X.env) fp) ifs tt)
    (he : ∀ (s : Shared) (H : Hp) (C : Addr) (cl : List (PySem.Str × Addr)) (fp : List Addr), PE (X.blk s H sc (compEnvC sc cl C X.env) fp) elt te)
    (hi1 : ∀ (s : Shared) (H : Hp) (C : Addr) (cl : List (PySem.Str × Addr)) (fp : List Addr), PI (X.blk s H sc (compEnvC sc cl C X.env) fp) tg1 iter1 wi1)
    (hg1 : ∀ (s : Shared) (H : Hp) (C : Addr) (cl : List (PySem.Str × Addr)) (fp : List Addr), PG (X.blk s H sc (compEnvC sc cl C X.env) fp) tg1 g1)
    (ht1 : ∀ (s : Shared) (H : Hp) (C : Addr) (cl : List (PySem.Str × Addr)) (fp : List Addr), PTs (X.blk s H sc (compEnvC sc cl C X.env) fp) ifs1 tt1)
    (hs : ∀ x, foldedSetIterable iter X.env x = pure x) (hs1 : ∀ env x, foldedSetIterable iter1 env x = pure x) (h : tSc2 X.prog X.w wi g tt wi1 g1 tt1 te (own.map (·.2)) vs1 σ H Q)
    (back : ∀ D C s' m H', Inv X pins σ H' s' → Q (.ref D) H' → s'.heap.Ns C m → FpOk X pins H' C → compPost (model X.prog X.w) X.A X.xe use Qf (.ref D) C (.ok .next) s') :
    wpAny (model X.prog X.w) X.A (comprehension (sc2 elt tg iter tg1 iter1 ifs ifs1 sc pos) sc X.env pos' (PySem.newSet (.type "set")) false (eval iter X.env) use) Qf X.xe s := by
  have free : ∀ y ∈ sc.names, y.2 = .free → ∃ c, X.env.cells.lookup y.1 = some c := fun y hy e => (ok.free y hy e).elim (fun k => I.ok.has _ (.inl k)) fun k => I.ok.has _ (.inr k)
  refine wpAny_comprehension_free (use := use) rfl hs (closure_ok free) ok.kind (fun y hy e => by rw [ok.uniq y hy, e])
    (thn (hi.run pins s σ H _ I h) fun xv s1 hx => thn hx fun itv s2 ⟨it, fp, tn, J, H2, e, I2, T, st2, f2, q⟩ => ?_)
  subst e
  refine PpSet.newSet_ok (newEnv_comp ?_)
  generalize hD : s2.heap.objs.size = D
  have nD : H2 D = none := I2.hok.fresh (Nat.le_of_eq hD)
  obtain ⟨W, ⟨m0, w0⟩, turn⟩ := q D nD
  generalize hs3 : ({ s2 with heap := s2.heap.push (NS.newSet X.w) } : Shared) = s3
  have eh3 : s3.heap = s2.heap.push (NS.newSet X.w) := by rw [← hs3]
  have I3 : Inv X pins σ (upd H2 D (SetKO X.prog X.w D [])) s3 := by
    rw [← hs3]
    refine I2.laid (t' := s2.toks) (fun b o e => Heap.get?_push_of_some _ e) (Nat.le_of_eq hD) (setKO_ok (freshK ?_))
    rw [← hD]
    exact Heap.get?_push_size _ rfl
  have f3 : ∀ b ∈ fp, FpOk X pins (upd H2 D (SetKO X.prog X.w D [])) b ∧ b < s3.heap.objs.size := fun b hb => by
    obtain ⟨o, e, _⟩ := T.obj _ _ st2 b hb
    have lt := Heap.lt_size e
    refine ⟨⟨?_, (f2 b hb).2⟩, by rw [eh3, Heap.size_push]; exact Nat.lt_succ_of_lt lt⟩
    rw [upd_ne (by rw [← hD]; exact Nat.ne_of_lt lt)]
    exact (f2 b hb).1
  have st3 : tn 0 s3.heap := T.keep _ _ _ st2 fun b _ o e => by rw [eh3]; exact Heap.get?_push_of_some _ e
  have I4 := block_start I3 ok hN f3
  have pg := hg s3 (upd H2 D (SetKO X.prog X.w D [])) s3.heap.objs.size (cellsFrom (s3.heap.objs.size + 1) sc.names (cloFrom X.env.cells sc.names [])) fp
  have pt := ht s3 (upd H2 D (SetKO X.prog X.w D [])) s3.heap.objs.size (cellsFrom (s3.heap.objs.size + 1) sc.names (cloFrom X.env.cells sc.names [])) fp
  have pe := he s3 (upd H2 D (SetKO X.prog X.w D [])) s3.heap.objs.size (cellsFrom (s3.heap.objs.size + 1) sc.names (cloFrom X.env.cells sc.names [])) fp
  have pi := hi1 s3 (upd H2 D (SetKO X.prog X.w D [])) s3.heap.objs.size (cellsFrom (s3.heap.objs.size + 1) sc.names (cloFrom X.env.cells sc.names [])) fp
  have pg' := hg1 s3 (upd H2 D (SetKO X.prog X.w D [])) s3.heap.objs.size (cellsFrom (s3.heap.objs.size + 1) sc.names (cloFrom X.env.cells sc.names [])) fp
  have pt' := ht1 s3 (upd H2 D (SetKO X.prog X.w D [])) s3.heap.objs.size (cellsFrom (s3.heap.objs.size + 1) sc.names (cloFrom X.env.cells sc.names [])) fp
  show codeAny _ _ (.compStart (sc2 elt tg iter tg1 iter1 ifs ifs1 sc pos) 0 (.ref it) (.ref D) (compEnvC sc (cellsFrom (s3.heap.objs.size + 1) sc.names (cloFrom X.env.cells sc.names [])) s3.heap.objs.size X.env)) (compPost (model X.prog X.w) X.A X.xe use Qf (.ref D) s3.heap.objs.size) { s3 with heap := pushCells (s3.heap.push { cls := .type "dict", data := .dict #[] }) sc.names }
  have nfp : ∀ b ∈ fp, (upd H2 D (SetKO X.prog X.w D [])) b = none := fun b hb => (f3 b hb).1.1
  generalize hce : compEnvC sc (cellsFrom (s3.heap.objs.size + 1) sc.names (cloFrom X.env.cells sc.names [])) s3.heap.objs.size X.env = ce at I4 pg pt pe pi pg' pt' ⊢
  have cL : ce.locals = s3.heap.objs.size := by subst hce; rfl
  generalize upd H2 D (SetKO X.prog X.w D []) = H3 at I3 I4 pg pt pe pi pg' pt' w0 nfp f3
  generalize hs4 : ({ s3 with heap := pushCells (s3.heap.push { cls := .type "dict", data := .dict #[] }) sc.names } : Shared) = s4 at I4 ⊢
  have st4 : tn 0 s4.heap := T.keep _ _ _ st3 fun b _ o e => by rw [← hs4]; exact pushCells_keeps _ _ _ _ (Heap.get?_push_of_some _ e)
  have pinned0 : ∀ {σ' : L2.St} {H' : Hp} {z : Shared}, Inv (X.blk s3 H3 sc ce fp) [] σ' H' z → (∀ b ∈ fp, H' b = none) → ∀ b ∈ fp, FpOk (X.blk s3 H3 sc ce fp) [] H' b := fun {σ' H' z} J' hn b hb =>
    ⟨hn b hb, (J'.ok.exf b hb).1, J'.ok.exfs b hb, .inl hb, fun x c e => (J'.ok.exf b hb).2 x c e, fun p hp => absurd (show p ∈ ([] : List (Addr × Obj)) ++ [] from hp) (by simp)⟩
  have loop : codeAny (model X.prog X.w) X.A (.compLoop (sc2 elt tg iter tg1 iter1 ifs ifs1 sc pos) 0 (.ref it) (.ref D) ce) (compPost (model X.prog X.w) X.A X.xe use Qf (.ref D) s3.heap.objs.size) s4 := by
    refine loopOut (hs1 ce) (fun n z => ∃ i H', Inv (X.blk s3 H3 sc ce fp) [] (wipe σ (own.map (·.2))) H' z ∧ tn i z.heap ∧ (∀ b ∈ fp, H' b = none) ∧ W i n H') ?_ m0 ⟨0, H3, I4, st4, nfp, w0⟩
    rintro n s5 ⟨i, H5, I5, st5, n5, w5⟩
    rcases turn i n H5 w5 with ⟨stop, qq⟩ | ⟨go, N, hNx, step⟩
    · refine thnF (T.done (X.blk s3 H3 sc ce fp) rfl rfl rfl hc i [] s5 _ H5 (fun _ _ => False) I5 (pinned0 I5 n5) st5 stop) fun r s6 ⟨hr, I6⟩ => ?_
      subst hr
      have I7 : Inv X pins σ H5 s6 := I3.call' (ch := fp) I6.os I6.base I6.hok I6.bare fun b hb => ⟨(f3 b hb).1.2.2.2.1, (f3 b hb).1.2.1, (f3 b hb).1.2.2.2.2.1, (f3 b hb).1.2.2.2.2.2⟩
      obtain ⟨m, hm, _⟩ := I6.loc
      have hm2 : s6.heap.Ns ce.locals m := hm
      have nC : H5 ce.locals = none := I6.free
      rw [cL] at hm2 nC
      exact back D s3.heap.objs.size s6 m H5 I7 qq hm2 (I3.fpOk (Nat.le_refl _) nC)
    refine thnF (T.item (X.blk s3 H3 sc ce fp) rfl rfl rfl hc i [] s5 _ H5 (fun _ _ => False) I5 (pinned0 I5 n5) st5 go) fun r s6 ⟨u, hr, h6⟩ => ?_
    subst hr
    refine thnF h6 fun _ s7 ⟨x, H7, I7, r7, y7, st7, n7⟩ => ?_
    have P7 := I7.pinned (pinned0 I7 n7) (T.obj _ _ st7)
    refine thnF (pg.run _ s7 _ H7 x u _ P7 r7 (step x H7 y7)) fun _ s8 ⟨σ8, H8, I8, hw8, q8⟩ => ?_
    refine thnF (pt.run _ s8 σ8 H8 _ I8 q8) fun b s9 ⟨H9, I9, q9⟩ => ?_
    have again : ∀ {σ9 : L2.St} {z : Shared} {H' : Hp}, Inv (X.blk s3 H3 sc ce fp) ([] ++ pinsAt fp s7.heap) σ9 H' z → (wipe σ (own.map (·.2))).length = σ9.length → (∀ (j : Nat) v, (wipe σ (own.map (·.2)))[j]? = some (some v) → σ9[j]? = some (some v)) → N H' →
        ∃ m, m < n ∧ ∃ i H', Inv (X.blk s3 H3 sc ce fp) [] (wipe σ (own.map (·.2))) H' z ∧ tn i z.heap ∧ (∀ b ∈ fp, H' b = none) ∧ W i m H' := fun {σ9 z H'} J' hl hk nx => by
      obtain ⟨m', hm, w'⟩ := hNx H' nx
      have held : ∀ b ∈ fp, ∀ o, s7.heap.get? b = some o → z.heap.get? b = some o ∧ H' b = none := fun b hb o e =>
        have zz := J'.pin (b, o) (List.mem_append_right _ (List.mem_append_right _ (mem_pinsAt hb e)))
        ⟨zz.1, zz.2.1⟩
      refine ⟨m', hm, i + 1, H', (J'.unpinned (pins := [])).weak hl hk, T.keep _ _ _ st7 fun b hb o e => (held b hb o e).1, fun b hb => ?_, w'⟩
      obtain ⟨o, e, _⟩ := T.obj _ _ st7 b hb
      exact (held b hb o e).2
    have l8 : (wipe σ (own.map (·.2))).length = σ8.length := by rw [← hw8, wipe_length]
    have k8 : ∀ (j : Nat) v, (wipe σ (own.map (·.2)))[j]? = some (some v) → σ8[j]? = some (some v) ∧ (wipe σ8 vs1)[j]? = some (some v) := fun j v e => by
      rw [← hw8] at e
      obtain ⟨e1, e2⟩ := wipe_some e
      exact ⟨e1, by rw [wipe_out fun z => e2 (hv j z)]; exact e1⟩
    cases b with
    | false =>
      simp only [Bool.false_eq_true, if_false] at q9 ⊢
      exact again I9 l8 (fun j v e => (k8 j v e).1) q9
    | true =>
      simp only [if_true] at q9 ⊢
      refine thnF (pi.run _ s9 σ8 H9 _ I9 q9) fun xv s10 hx => thnF hx fun itv s11 ⟨it1, fp1, tn1, J1, H11, e1, I11, T1, st11, f11, W1, ⟨m1, w1⟩, turn1⟩ => ?_
      subst e1
      have pinned1 : ∀ {H' : Hp}, (∀ b ∈ fp1, H' b = none) → ∀ b ∈ fp1, FpOk (X.blk s3 H3 sc ce fp) ([] ++ pinsAt fp s7.heap) H' b := fun hn b hb => ⟨hn b hb, (f11 b hb).2⟩
      have inner : codeAny (model X.prog X.w) X.A (.compLoop (sc2 elt tg iter tg1 iter1 ifs ifs1 sc pos) 1 (.ref it1) (.ref D) ce)
          (fun r z => match r with
            | .ok _ => ∃ m, m < n ∧ ∃ i H', Inv (X.blk s3 H3 sc ce fp) [] (wipe σ (own.map (·.2))) H' z ∧ tn i z.heap ∧ (∀ b ∈ fp, H' b = none) ∧ W i m H'
            | .error _ => False) s11 := by
        refine loopIn (fun k z => ∃ j H', Inv (X.blk s3 H3 sc ce fp) ([] ++ pinsAt fp s7.heap) (wipe σ8 vs1) H' z ∧ tn1 j z.heap ∧ (∀ b ∈ fp1, H' b = none) ∧ W1 j k H') ?_ m1 ⟨0, H11, I11.weak (wipe_length _ _) (fun j v e => (wipe_some e).1), st11, fun b hb => (f11 b hb).1, w1⟩
        rintro k s12 ⟨j, H12, I12, st12, n12, w12⟩
        rcases turn1 j k H12 w12 with ⟨stop1, nx1⟩ | ⟨go1, N1, hNx1, step1⟩
        · refine thnF (T1.done (X.blk s3 H3 sc ce fp) rfl rfl rfl hc j _ s12 (wipe σ8 vs1) H12 (fun _ _ => False) I12 (pinned1 n12) st12 stop1) fun r s13 ⟨hr, I13⟩ => ?_
          subst hr
          exact again I13 (l8.trans (wipe_length σ8 vs1).symm) (fun j v e => (k8 j v e).2) nx1
        refine thnF (T1.item (X.blk s3 H3 sc ce fp) rfl rfl rfl hc j _ s12 (wipe σ8 vs1) H12 (fun _ _ => False) I12 (pinned1 n12) st12 go1) fun r s13 ⟨u1, hr, h13⟩ => ?_
        subst hr
        refine thnF h13 fun _ s14 ⟨x1, H14, I14, r14, y14, st14, n14⟩ => ?_
        have P14 := I14.pinned (pinned1 n14) (T1.obj _ _ st14)
        refine thnF (pg'.run _ s14 (wipe σ8 vs1) H14 x1 u1 _ P14 r14 (step1 x1 H14 y14)) fun _ s15 ⟨σ15, H15, I15, hw15, q15⟩ => ?_
        refine thnF (pt'.run _ s15 σ15 H15 _ I15 q15) fun b1 s16 ⟨H16, I16, q16⟩ => ?_
        have again1 : ∀ {z : Shared} {H' : Hp}, Inv (X.blk s3 H3 sc ce fp) (([] ++ pinsAt fp s7.heap) ++ pinsAt fp1 s14.heap) σ15 H' z → N1 H' →
            ∃ m, m < k ∧ ∃ j H', Inv (X.blk s3 H3 sc ce fp) ([] ++ pinsAt fp s7.heap) (wipe σ8 vs1) H' z ∧ tn1 j z.heap ∧ (∀ b ∈ fp1, H' b = none) ∧ W1 j m H' := fun {z H'} J' nx => by
          obtain ⟨m', hm, w'⟩ := hNx1 H' nx
          have held : ∀ b ∈ fp1, ∀ o, s14.heap.get? b = some o → z.heap.get? b = some o ∧ H' b = none := fun b hb o e =>
            have zz := J'.pin (b, o) (List.mem_append_right _ (List.mem_append_right _ (mem_pinsAt hb e)))
            ⟨zz.1, zz.2.1⟩
          refine ⟨m', hm, j + 1, H', J'.unpinned.weak (by rw [← hw15, wipe_length]) (fun j v e => by rw [← hw15] at e; exact (wipe_some e).1), T1.keep _ _ _ st14 fun b hb o e => (held b hb o e).1, fun b hb => ?_, w'⟩
          obtain ⟨o, e, _⟩ := T1.obj _ _ st14 b hb
          exact (held b hb o e).2
        cases b1 with
        | false =>
          simp only [Bool.false_eq_true, if_false] at q16 ⊢
          exact again1 I16 q16
        | true =>
          simp only [if_true] at q16 ⊢
          refine thnF (pe.run _ s16 σ15 H16 _ I16 q16) fun z s17 ⟨yv, H17, I17, r17, kk, M, ey, hD17, few, nx⟩ => ?_
          subst ey
          exact add_in (X := X.blk s3 H3 sc ce fp) I17 hD17 few r17 fun M' s18 ad I18 => again1 I18 (nx M' ad)
      exact startIn inner (T1.self X.A 0 _ _ _ st11 inner)
  exact PpSet.codeAny_compStart_set loop (T.self X.A 0 _ _ _ st4 loop)
theorem pe_sc2 {elt tg iter tg1 iter1 : Expr} {ifs ifs1 : List Expr} {sc : Scope} {own : List (PySem.Str × Nat)} {vs1 : List Nat} {pos : Pos} {wi wi1 : TI} {g g1 : TG} {tt tt1 : TT} {te : TE} (hc : X.calm = true) (hN : X.N.Nodup) (hi : PI X tg iter wi) (ok : BlkOk X.N X.env.scope sc own) (hv : ∀ i ∈ vs1, i ∈ own.map (·.2))
    (hg : ∀ (s : Shared) (H : Hp) (C : Addr) (cl : List (PySem.Str × Addr)) (fp : List Addr), PG (X.blk s H sc (compEnvC sc cl C X.env) fp) tg g)
    (ht : ∀ (s : Shared) (H : Hp) (C : Addr) (cl : List (PySem.Str × Addr)) (fp : List Addr), PTs (X.blk s H sc (compEnvC sc cl C X.env) fp) ifs tt)
    (he : ∀ (s : Shared) (H : Hp) (C : Addr) (cl : List (PySem.Str × Addr)) (fp : List Addr), PE (X.blk s H sc (compEnvC sc cl C X.env) fp) elt te)
    (hi1 : ∀ (s : Shared) (H : Hp) (C : Addr) (cl : List (PySem.Str × Addr)) (fp : List Addr), PI (X.blk s H sc (compEnvC sc cl C X.env) fp) tg1 iter1 wi1)
    (hg1 : ∀ (s : Shared) (H : Hp) (C : Addr) (cl : List (PySem.Str × Addr)) (fp : List Addr), PG (X.blk s H sc (compEnvC sc cl C X.env) fp) tg1 g1)
    (ht1 : ∀ (s : Shared) (H : Hp) (C : Addr) (cl : List (PySem.Str × Addr)) (fp : List Addr), PTs (X.blk s H sc (compEnvC sc cl C X.env) fp) ifs1 tt1)
    (hs : ∀ x, foldedSetIterable iter X.env x = pure x := by intro _; rfl) (hs1 : ∀ env x, foldedSetIterable iter1 env x = pure x := by intro _ _; rfl) :
    PE X (sc2 elt tg iter tg1 iter1 ifs ifs1 sc pos) (tSc2 X.prog X.w wi g tt wi1 g1 tt1 te (own.map (·.2)) vs1) := by
  refine ⟨fun pins s σ H Q I h => ?_⟩
  rw [PpSet.eval_SetComp]
  refine sc2_core hc hN I hi ok hv hg ht he hi1 hg1 ht1 hs hs1 h fun D C s' m H' I' q hn f => ⟨m, hn, fun h'' sb => ?_⟩
  obtain ⟨f0, f1, f2, f3, f4, f5⟩ := f
  exact ⟨.ref D, H', I'.turned (t' := s'.toks) (fun b o hb e => (sb.2 b hb).trans e) f0 f1 f3 f4 f5, rfl, q⟩
end
end KS

/-! DP: sorted(set(xs)) of keys, sorted({.. for .. for ..}), by value. -/
namespace DL
open PySem PySem.Spec PyProof.Rows L2 KS
/-- us holds what ks holds, each once -/
structure Once (ks us : List Key) : Prop where
  nd : us.Nodup
  mem : ∀ k, k ∈ us ↔ k ∈ ks
theorem alike_perm' {ks us : List Key} (h : ∀ k ∈ us, k ∈ ks) (al : AlikeK ks) : AlikeK us := fun a ha b hb => al a (h a ha) b (h b hb)
theorem map_sortK (us : List Key) : (us.mergeSort (PySem.W.dataLe false datK)).map wK = (us.map wK).mergeSort leW :=
  List.map_mergeSort (r := PySem.W.dataLe false datK) (s := leW) (f := wK) (l := us) fun x _ y _ => by
    cases x <;> cases y <;> rfl
theorem repL_wKs {K : Fg} {r : List Addr} {H : Hp} : ∀ ks : List Key, RepL K r H (ks.map kV) (ks.map wK)
  | [] => .nil
  | k :: ks => .cons (rep_wK k) (repL_wKs ks)
theorem repL_keys {K : Fg} {r : List Addr} {H : Hp} : ∀ {ks : List Key} {vs : List V}, RepL K r H vs (ks.map wK) → vs = ks.map kV
  | [], _, .nil => rfl
  | k :: ks, _, .cons p l => by
    rw [rep_key p (keyW_wK k), repL_keys l]
    rfl
/-! ### sorted(set(xs)) -/
def vSortSetK (xs : List W) (S : Sto) (Q : WK) : Prop := match xs with
  | [.ref i] => ∃ ks : List Key, S[i]? = some (.lst (ks.map wK)) ∧ ks.length < 64 ∧ AlikeK ks ∧ ∀ us, Once ks us → Q (.ref S.length) (S ++ [.lst ((us.map wK).mergeSort leW)])
  | _ => False
theorem sortSetK_sim {K : Fg} {P : Program} {w : World} {r : List Addr} {H : Hp} {S : Sto} {xs : List V} {ws : List W} {Q : WK} {Q0 : VK} (R : RelS K r H S) (l : RepL K r H xs ws) (d : vSortSetK ws S Q)
    (k : ∀ r' H' S' v w, Ext K r H r' H' → RelS K r' H' S' → Rep K r' H' v w → Q w S' → Q0 v H') : rSetK K P w xs H fun v H1 => rSortK K P w [v] H1 Q0 := by
  cases l with
  | nil => exact d.elim
  | cons p l =>
    cases l with
    | cons p' l' => cases p <;> exact d.elim
    | nil =>
      cases p <;> try exact d.elim
      rename_i a i h
      obtain ⟨ks, hi, few, al, q⟩ := d
      obtain ⟨vs, ha, lv⟩ := R.obj i a _ h hi
      have ev := repL_keys lv
      subst ev
      refine ⟨a, ks, rfl, .of ha, few, fun a2 M hn sub all nd fewM => ?_⟩
      have e0 : Ext K r H r (upd H a2 (SetKO P w a2 M)) := ext_new hn
      have mem : ∀ k, k ∈ M.map (·.2) ↔ k ∈ ks := fun k => ⟨fun h => by
        obtain ⟨m, hm, rfl⟩ := List.mem_map.mp h
        exact sub m hm, all k⟩
      refine ⟨a2, M, rfl, upd_same, alike_perm' (fun k hk => (mem k).mp hk) al, by omega, fun us p hp hnp => ?_⟩
      rw [← List.map_id' (l := us)] at hp
      have hp2 : us.Perm (M.map (·.2)) := by rwa [List.map_id'] at hp
      have rl : RepL K r (upd H a2 (SetKO P w a2 M)) ((us.mergeSort (PySem.W.dataLe false datK)).map kV) ((us.map wK).mergeSort leW) := by
        rw [← map_sortK]
        exact repL_wKs _
      exact k _ _ _ _ _ (e0.trans (ext_mem hnp)) (new_lst (rel_new (o := SetKO P w a2 M) R hn) hnp rl) (rep_mem (rel_new (o := SetKO P w a2 M) R hn)) (q us ⟨hp2.nodup_iff.mpr nd, fun k => hp2.mem_iff.trans (mem k)⟩)
section
variable {X : Cx} {e : Expr} {es : List Expr} {dA : DA} {pos pos2 p p2 : Pos}
theorem c_sortSetK (hc : X.calm = true) (hu : X.A.units + 80 < cLine) (hg : Gl X "sorted") (hm : X.mg "sorted" = none) (hg2 : Gl X "set") (hm2 : X.mg "set" = none) (ha : XA X (e :: es) dA)
    (he : starEach (e :: es) X.env = (false, eval e X.env) :: starEach es X.env := by rfl) (hpl : (backTo pos2 (starEach es X.env)).any (·.1) = false := by rfl)
    (he2 : starEach [.Call (.Name "set" p2) (e :: es) [] pos2] X.env = (false, eval (.Call (.Name "set" p2) (e :: es) [] pos2) X.env) :: starEach [] X.env := by rfl) (hpl2 : (backTo pos (starEach [] X.env)).any (·.1) = false := by rfl) :
    XE X (.Call (.Name "sorted" p) [.Call (.Name "set" p2) (e :: es) [] pos2] [] pos) (dCB vSortSetK dA) := by
  obtain ⟨ta, pa, sa⟩ := ha.ex
  have p1 := pe_callTy (p := p2) (pos := pos2) (cr_setK hc (by omega)) hg2 hm2 (by decide +kernel) pa (by decide) (by decide) he hpl
  refine ⟨_, pe_callB (p := p) (pos := pos) (cr_sortK hc hu) hg hm (by decide +kernel) (pa_cons p1 pa_nil he2) (by decide) (by decide) he2 hpl2, fun r H S s env Q Q0 R E d k => ?_⟩
  exact sa r H S s env _ _ R E d fun r1 H1 S1 vs ws e1 R1 l d1 => sortSetK_sim (P := X.prog) (w := X.w) R1 l d1 fun r2 H2 S2 v w e2 => k r2 H2 S2 v w (e1.trans e2)
end
/-! ### sorted({.. for .. for ..}) -/
theorem Kp.trans {K : Fg} {r r1 r2 : List Addr} {H H1 H2 : Hp} (a : Kp K r H r1 H1) (b : Kp K r1 H1 r2 H2) : Kp K r H r2 H2 :=
  ⟨fun i x h => b.pre i x (a.pre i x h), fun c xs h => b.tup c xs (a.tup c xs h), fun c o u h => b.frz c o u (a.frz c o u h)⟩
theorem RepE.mono' {K : Fg} {r r' : List Addr} {H H' : Hp} {s : L2.St} {env : Slots} (e : Kp K r H r' H') (h : RepE K r H s env) : RepE K r' H' s env :=
  ⟨h.1, fun i w q => by
    obtain ⟨v, a, b⟩ := h.2 i w q
    exact ⟨v, a, b.mono' e⟩⟩
def setW1 (g : DG) (dt : DT) (de : DE) (vs : List Nat) (still : Sto → Prop) (env : Slots) (N : List Key → Sto → Prop) : List W → List Key → Sto → Prop
  | [], acc, S => still S ∧ N acc S
  | x :: r, acc, S => still S ∧ g x (wipeW env vs) S fun env2 S2 => dt env2 S2 fun b S3 => if b = true then de env2 S3 fun y S4 => ∃ k, y = wK k ∧ acc.length < 4000 ∧ setW1 g dt de vs still env N r (acc ++ [k]) S4 else setW1 g dt de vs still env N r acc S3
def setW2 (g : DG) (dt : DT) (di1 : DI) (g1 : DG) (dt1 : DT) (de : DE) (vs vs1 : List Nat) (still : Sto → Prop) (env : Slots) (N : List Key → Sto → Prop) : List W → List Key → Sto → Prop
  | [], acc, S => still S ∧ N acc S
  | x :: r, acc, S => still S ∧ g x (wipeW env vs) S fun env2 S2 => dt env2 S2 fun b S3 => if b = true then di1 env2 S3 fun its1 still1 S4 => setW1 g1 dt1 de vs1 still1 env2 (setW2 g dt di1 g1 dt1 de vs vs1 still env N r) its1 acc S4
      else setW2 g dt di1 g1 dt1 de vs vs1 still env N r acc S3
def dSortSC2 (di : DI) (g : DG) (dt : DT) (di1 : DI) (g1 : DG) (dt1 : DT) (de : DE) (vs vs1 : List Nat) : DE := fun env S Q => di env S fun its still S1 =>
  setW2 g dt di1 g1 dt1 de vs vs1 still env (fun acc S2 => AlikeK acc ∧ ∀ us, Once acc us → Q (.ref S2.length) (S2 ++ [.lst ((us.map wK).mergeSort leW)])) its [] S1
/-- what the set holds is what has been met -/
structure Met (acc : List Key) (M : List KMem) : Prop where
  nd : (M.map (·.2)).Nodup
  mem : ∀ k, k ∈ M.map (·.2) ↔ k ∈ acc
  len : M.length ≤ acc.length
  few : acc.length ≤ 4000
theorem Met.add {acc : List Key} {M M' : List KMem} {k : Key} (h : Met acc M) (few : acc.length < 4000) (a : Added k M M') : Met (acc ++ [k]) M' := by
  have few2 : (acc ++ [k]).length ≤ 4000 := by rw [List.length_append]; exact few
  rcases Classical.em (k ∈ M.map (·.2)) with c | c
  · rw [a.1 c]
    refine ⟨h.nd, fun j => ?_, by rw [List.length_append]; have := h.len; omega, few2⟩
    rw [h.mem, List.mem_append, List.mem_singleton]
    refine ⟨.inl, fun o => o.elim id fun e => ?_⟩
    rw [e]
    exact (h.mem k).mp c
  · obtain ⟨u, p⟩ := a.2 c
    have p2 : (M'.map (·.2)).Perm (k :: M.map (·.2)) := p.map (·.2)
    refine ⟨p2.nodup_iff.mpr (List.nodup_cons.mpr ⟨c, h.nd⟩), fun j => ?_, by rw [p.length_eq, List.length_append]; exact Nat.succ_le_succ h.len, few2⟩
    rw [p2.mem_iff, List.mem_cons, h.mem, List.mem_append, List.mem_singleton]
    exact Or.comm
def canI (K : Fg) (d : DI) : TI := fun s H Q0 => ∃ (r : List Addr) (S : Sto) (env : Slots) (Q : List W → (Sto → Prop) → Sto → Prop), RelS K r H S ∧ RepE K r H s env ∧ d env S Q ∧ ∀ r' H' S' J its still, Ext K r H r' H' → RelS K r' H' S' → ItOk K J its still r' H' → Q its still S' → Q0 J H'
theorem canI_sim {K : Fg} {d : DI} : SimI K (canI K d) d := fun r H S s env Q Q0 R E h k => ⟨r, S, env, Q, R, E, h, k⟩
theorem XI.pi {X : Cx} {tg it : Expr} {d : DI} (h : XI X tg it d) : PI X tg it (canI X.K d) := by
  obtain ⟨t, p, s⟩ := h.ex
  exact ⟨fun pins st σ H R I ⟨r, S, env, Q, Rl, E, hd, k⟩ => p.run pins st σ H R I (s r H S σ env Q R Rl E hd k)⟩
theorem sim_sc2 {K : Fg} {P : Program} {w : World} {wi wi1 : TI} {tg tg1 : TG} {tt tt1 : TT} {te : TE} {di di1 : DI} {g g1 : DG} {dt dt1 : DT} {de : DE} {vs vs1 : List Nat} (si : SimI K wi di) (sg : SimG K tg g) (og : OwnG tg vs) (st : SimT K tt dt)
    (si1 : SimI K wi1 di1) (sg1 : SimG K tg1 g1) (og1 : OwnG tg1 vs1) (st1 : SimT K tt1 dt1) (se : Sim K te de) :
    Sim K (tCB (rSortK K P w) (tCons (tSc2 P w wi tg tt wi1 tg1 tt1 te vs vs1) tNil)) (dSortSC2 di g dt di1 g1 dt1 de vs vs1) := by
  intro r H S s env Q Q0 R E d k
  refine si r H S s env _ _ R E d fun r1 H1 S1 J its still e1 R1 ok d1 => ?_
  intro D hD
  have nD := R1.notin hD
  refine ⟨fun i m H' => i + m = its.length ∧ ∃ r' S' acc M, Ext K r1 H1 r' H' ∧ RelS K r' H' S' ∧ D ∉ r' ∧ H' D = some (SetKO P w D M) ∧ Met acc M ∧ setW2 g dt di1 g1 dt1 de vs vs1 still env (fun acc S2 => AlikeK acc ∧ ∀ us, Once acc us → Q (.ref S2.length) (S2 ++ [.lst ((us.map wK).mergeSort leW)])) (its.drop i) acc S',
    ⟨its.length, by omega, r1, S1, [], [], ext_new hD, rel_new R1 hD, nD, upd_same, ⟨List.nodup_nil, fun k => Iff.rfl, Nat.le_refl _, Nat.zero_le _⟩, d1⟩, ?_⟩
  rintro i m H' ⟨hm, r', S', acc, M, e', R', n', hl, met, d'⟩
  cases hx : its[i]? with
  | none =>
    have hle : its.length ≤ i := List.getElem?_eq_none_iff.mp hx
    rw [List.drop_of_length_le hle] at d'
    obtain ⟨hst, al, q⟩ := d'
    refine .inl ⟨ok.stop r' H' S' i e'.toKp R' hst hle, ?_⟩
    refine ⟨D, M, rfl, hl, alike_perm' (fun k hk => (met.mem k).mp hk) al, ?_, fun us p hp hnp => ?_⟩
    · have := met.len
      have := met.few
      omega
    · have rl : RepL K r' H' ((us.mergeSort (PySem.W.dataLe false datK)).map kV) ((us.map wK).mergeSort leW) := by
        rw [← map_sortK]
        exact repL_wKs _
      exact k _ _ _ _ _ ((e1.trans e').trans (ext_mem hnp)) (new_lst R' hnp rl) (rep_mem R') (q us ⟨hp.nodup_iff.mpr met.nd, fun k => hp.mem_iff.trans (met.mem k)⟩)
  | some x =>
    obtain ⟨hlt, ex⟩ := List.getElem?_eq_some_iff.mp hx
    rw [List.drop_eq_getElem_cons hlt, ex] at d'
    obtain ⟨hst, d'⟩ := d'
    obtain ⟨go, yl⟩ := ok.go r' H' S' i x e'.toKp R' hst hx
    generalize hN : setW2 g dt di1 g1 dt1 de vs vs1 still env (fun acc S2 => AlikeK acc ∧ ∀ us, Once acc us → Q (.ref S2.length) (S2 ++ [.lst ((us.map wK).mergeSort leW)])) (its.drop (i + 1)) = N at d'
    refine .inr ⟨go, fun H3 => ∃ r' S' acc M, Ext K r1 H1 r' H3 ∧ RelS K r' H3 S' ∧ D ∉ r' ∧ H3 D = some (SetKO P w D M) ∧ Met acc M ∧ N acc S', fun H3 h3 => ⟨m - 1, by omega, by omega, by rw [hN]; exact h3⟩, fun v H3 hy => ?_⟩
    obtain ⟨e3, R3, q3⟩ := yl v H3 hy
    have e13 := e'.trans e3
    obtain ⟨n3, hl3⟩ := e3.apart n' hl
    have E3 := (E.mono (e1.trans e13)).wipe vs
    refine og v (wipe s vs) H3 _ _ (wipe s vs) rfl (sg r' H3 S' (wipe s vs) (wipeW env vs) v x _ (fun s4 H4 => ∃ r4 S4 env4, Ext K r' H3 r4 H4 ∧ RelS K r4 H4 S4 ∧ RepE K r4 H4 s4 env4 ∧ dt env4 S4 fun b S5 => if b = true then di1 env4 S5 fun its1 still1 S6 => setW1 g1 dt1 de vs1 still1 env4 N its1 acc S6 else N acc S5) R3 E3 q3 d' fun r4 H4 S4 s4 env4 e4 R4 E4 d4 => ⟨r4, S4, env4, e4, R4, E4, d4⟩) fun s4 H4 hw h4 => ?_
    obtain ⟨r4, S4, env4, e4, R4, E4, d4⟩ := h4
    refine ⟨by rw [hw, wipe_wipe], ?_⟩
    refine st r4 H4 S4 s4 env4 _ _ R4 E4 d4 fun r5 H5 S5 b e5 R5 d5 => ?_
    have e15 := (e13.trans e4).trans e5
    obtain ⟨n5, hl5⟩ := (e4.trans e5).apart n3 hl3
    cases b with
    | false =>
      rw [if_neg Bool.false_ne_true] at d5 ⊢
      exact ⟨r5, S5, acc, M, e15, R5, n5, hl5, met, d5⟩
    | true =>
      rw [if_pos rfl] at d5 ⊢
      refine si1 r5 H5 S5 s4 env4 _ _ R5 (E4.mono e5) d5 fun r6 H6 S6 J1 its1 still1 e6 R6 ok1 d6 => ?_
      obtain ⟨n6, hl6⟩ := e6.apart n5 hl5
      have e16 := e15.trans e6
      have E6 := E4.mono (e5.trans e6)
      refine ⟨fun j k H' => j + k = its1.length ∧ ∃ r7 S7 acc M, Kp K r6 H6 r7 H' ∧ RelS K r7 H' S7 ∧ Ext K r1 H1 r7 H' ∧ D ∉ r7 ∧ H' D = some (SetKO P w D M) ∧ Met acc M ∧ setW1 g1 dt1 de vs1 still1 env4 N (its1.drop j) acc S7,
        ⟨its1.length, by omega, r6, S6, acc, M, Ext.refl.toKp, R6, e16, n6, hl6, met, d6⟩, ?_⟩
      rintro j k2 H7 ⟨hj, r7, S7, acc7, M7, e67, R7, e17, n7, hl7, met7, d7⟩
      cases hx1 : its1[j]? with
      | none =>
        have hle : its1.length ≤ j := List.getElem?_eq_none_iff.mp hx1
        rw [List.drop_of_length_le hle] at d7
        obtain ⟨hst1, dN⟩ := d7
        exact .inl ⟨ok1.stop r7 H7 S7 j e67 R7 hst1 hle, r7, S7, acc7, M7, e17, R7, n7, hl7, met7, dN⟩
      | some x1 =>
        obtain ⟨hlt1, ex1⟩ := List.getElem?_eq_some_iff.mp hx1
        rw [List.drop_eq_getElem_cons hlt1, ex1] at d7
        obtain ⟨hst1, d7⟩ := d7
        obtain ⟨go1, yl1⟩ := ok1.go r7 H7 S7 j x1 e67 R7 hst1 hx1
        refine .inr ⟨go1, fun H8 => ∃ r8 S8 acc M, Kp K r6 H6 r8 H8 ∧ RelS K r8 H8 S8 ∧ Ext K r1 H1 r8 H8 ∧ D ∉ r8 ∧ H8 D = some (SetKO P w D M) ∧ Met acc M ∧ setW1 g1 dt1 de vs1 still1 env4 N (its1.drop (j + 1)) acc S8, fun H8 h8 => ⟨k2 - 1, by omega, by omega, h8⟩, fun v1 H8 hy1 => ?_⟩
        obtain ⟨e78, R8, q8⟩ := yl1 v1 H8 hy1
        obtain ⟨n8, hl8⟩ := e78.apart n7 hl7
        have E8 := (E6.mono' (e67.trans e78.toKp)).wipe vs1
        refine og1 v1 (wipe s4 vs1) H8 _ _ (wipe s4 vs1) rfl (sg1 r7 H8 S7 (wipe s4 vs1) (wipeW env4 vs1) v1 x1 _ (fun s9 H9 => ∃ r9 S9 env9, Ext K r7 H8 r9 H9 ∧ RelS K r9 H9 S9 ∧ RepE K r9 H9 s9 env9 ∧ dt1 env9 S9 fun b Sa => if b = true then de env9 Sa fun y Sb => ∃ k, y = wK k ∧ acc7.length < 4000 ∧ setW1 g1 dt1 de vs1 still1 env4 N (its1.drop (j + 1)) (acc7 ++ [k]) Sb else setW1 g1 dt1 de vs1 still1 env4 N (its1.drop (j + 1)) acc7 Sa) R8 E8 q8 d7 fun r9 H9 S9 s9 env9 e9 R9 E9 d9 => ⟨r9, S9, env9, e9, R9, E9, d9⟩) fun s9 H9 hw9 h9 => ?_
        obtain ⟨r9, S9, env9, e9, R9, E9, d9⟩ := h9
        refine ⟨by rw [hw9, wipe_wipe], ?_⟩
        refine st1 r9 H9 S9 s9 env9 _ _ R9 E9 d9 fun ra Ha Sa b1 ea Ra da => ?_
        have e6a := ((e67.trans e78.toKp).trans e9.toKp).trans ea.toKp
        have e1a := ((e17.trans e78).trans e9).trans ea
        obtain ⟨na, hla⟩ := (e9.trans ea).apart n8 hl8
        cases b1 with
        | false =>
          rw [if_neg Bool.false_ne_true] at da ⊢
          exact ⟨ra, Sa, acc7, M7, e6a, Ra, e1a, na, hla, met7, da⟩
        | true =>
          rw [if_pos rfl] at da ⊢
          refine se ra Ha Sa s9 env9 _ _ Ra (E9.mono ea) da fun rb Hb Sb y wv eb Rb qb db => ?_
          obtain ⟨nb, hlb⟩ := eb.apart na hla
          obtain ⟨kk, rfl, few, db⟩ := db
          have hDn : H6 D ≠ none := by rw [hl6]; exact fun h => by cases h
          refine ⟨kk, M7, rep_key qb (keyW_wK kk), hlb, by have := met7.len; omega, fun M' ad => ⟨rb, Sb, acc7 ++ [kk], M', (e6a.trans eb.toKp).trans (Kp.hid hlb trivial), Rb.hid nb hlb trivial, (e1a.trans eb).hid hD hlb trivial, nb, upd_same, met7.add few ad, db⟩⟩
section
variable {X : Cx}
theorem xe_sortSC2 {p pos pos2 : Pos} {elt tg iter tg1 iter1 : Expr} {ifs ifs1 : List Expr} {scope : Scope} {di di1 : DI} {t t1 : TG} {g g1 : DG} {dt dt1 : DT} {de : DE} (own : List (Str × Nat)) (vs1 : List Nat) (hc : X.calm = true) (hu : X.A.units + 80 < cLine) (hgl : Gl X "sorted") (hm : X.mg "sorted" = none)
    (hN : X.N.Nodup) (hi : XI X tg iter di) (ok : BlkOk X.N X.env.scope scope own) (hv : ∀ i ∈ vs1, i ∈ own.map (·.2))
    (hg : ∀ (s : Shared) (H : Hp) (C : Addr) (cl : List (Str × Addr)) (fp : List Addr), XCG (X.blk s H scope (compEnvC scope cl C X.env) fp) (own.map (·.2)) tg t g)
    (ht : ∀ (s : Shared) (H : Hp) (C : Addr) (cl : List (Str × Addr)) (fp : List Addr), XTs (X.blk s H scope (compEnvC scope cl C X.env) fp) ifs dt)
    (hi1 : ∀ (s : Shared) (H : Hp) (C : Addr) (cl : List (Str × Addr)) (fp : List Addr), XI (X.blk s H scope (compEnvC scope cl C X.env) fp) tg1 iter1 di1)
    (hg1 : ∀ (s : Shared) (H : Hp) (C : Addr) (cl : List (Str × Addr)) (fp : List Addr), XCG (X.blk s H scope (compEnvC scope cl C X.env) fp) vs1 tg1 t1 g1)
    (ht1 : ∀ (s : Shared) (H : Hp) (C : Addr) (cl : List (Str × Addr)) (fp : List Addr), XTs (X.blk s H scope (compEnvC scope cl C X.env) fp) ifs1 dt1)
    (he : ∀ (s : Shared) (H : Hp) (C : Addr) (cl : List (Str × Addr)) (fp : List Addr), XE (X.blk s H scope (compEnvC scope cl C X.env) fp) elt de)
    (hs : ∀ x, foldedSetIterable iter X.env x = pure x := by intro _; rfl) (hs1 : ∀ env x, foldedSetIterable iter1 env x = pure x := by intro _ _; rfl)
    (he2 : starEach [Expr.SetComp elt [⟨tg, iter, ifs, 0⟩, ⟨tg1, iter1, ifs1, 0⟩] scope pos2] X.env = (false, eval (Expr.SetComp elt [⟨tg, iter, ifs, 0⟩, ⟨tg1, iter1, ifs1, 0⟩] scope pos2) X.env) :: starEach [] X.env := by rfl) :
    XE X (.Call (.Name "sorted" p) [.SetComp elt [⟨tg, iter, ifs, 0⟩, ⟨tg1, iter1, ifs1, 0⟩] scope pos2] [] pos) (dSortSC2 di g dt di1 g1 dt1 de (own.map (·.2)) vs1) := by
  obtain ⟨wi, pw, si⟩ := hi.ex
  have g0 := hg {} (fun _ => none) 0 [] []
  have g10 := hg1 {} (fun _ => none) 0 [] []
  have p1 := pe_sc2 (X := X) (vs1 := vs1) (tt := canT X.K dt) (te := canE X.K de) (tt1 := canT X.K dt1) (wi1 := canI X.K di1) (g := t) (g1 := t1) hc hN pw ok hv (fun s H C cl fp => (hg s H C cl fp).pg) (fun s H C cl fp => (ht s H C cl fp).pt) (fun s H C cl fp => (he s H C cl fp).pe) (fun s H C cl fp => (hi1 s H C cl fp).pi) (fun s H C cl fp => (hg1 s H C cl fp).pg) (fun s H C cl fp => (ht1 s H C cl fp).pt) hs hs1 (pos := pos2)
  exact ⟨_, pe_callB (p := p) (pos := pos) (cr_sortK hc hu) hgl hm (by decide +kernel) (pa_cons p1 pa_nil he2) (by decide) (by decide) he2 rfl, sim_sc2 si g0.sm g0.ow canT_sim canI_sim g10.sm g10.ow canT_sim canE_sim⟩
end
end DL

/-! DQ: dict comprehensions; bits; range of three; sorted by len. -/
namespace DL
open PySem PySem.Spec PyProof.Rows L2
/-! ### {k: v for .. in ..} -/
theorem kv_mono' {K : Fg} {r r' : List Addr} {H H' : Hp} (e : Kp K r H r' H') {vs : List (Key × V)} {ws : List (Key × W)} (l : RelKV K r H vs ws) : RelKV K r' H' vs ws := ⟨l.1, l.2.mono' e⟩
theorem join_dct {K : Fg} {r : List Addr} {H : Hp} {S : Sto} (R : RelS K r H S) {D : Addr} {xs : List (Key × V)} {ws : List (Key × W)} (n : D ∉ r) (h : H D = some (.dK xs)) (l : RelKV K r H xs ws) : RelS K (r ++ [D]) H (S ++ [.dk ws]) := by
  refine ⟨by rw [List.length_append, List.length_append, R.len]; rfl, ?_, fun i a ob ha hs => ?_⟩
  · rw [List.nodup_append]
    refine ⟨R.nd, List.nodup_cons.mpr ⟨List.not_mem_nil, List.nodup_nil⟩, fun a ha b hb e => ?_⟩
    rw [List.mem_singleton.mp hb] at e
    exact n (e ▸ ha)
  · by_cases l' : i < r.length
    · rw [List.getElem?_append_left l'] at ha
      rw [List.getElem?_append_left (by rw [← R.len]; exact l')] at hs
      exact relO_mono' Kp.join rfl (R.obj i a ob ha hs)
    · rw [List.getElem?_append_right (Nat.le_of_not_lt l')] at ha
      rw [List.getElem?_append_right (by rw [← R.len]; exact Nat.le_of_not_lt l'), ← R.len] at hs
      cases e : i - r.length with
      | zero =>
        rw [e] at ha hs
        have e1 : D = a := Option.some.inj ha
        have e2 : O.dk ws = ob := Option.some.inj hs
        rw [← e1, ← e2]
        exact ⟨xs, h, kv_mono' Kp.join l⟩
      | succ n =>
        rw [e] at ha
        simp at ha
def dictW (g : DG) (tt : DT) (tk tv : DE) (vs : List Nat) (still : Sto → Prop) (env : Slots) (Q : WK) : List W → List (Key × W) → Sto → Prop
  | [], acc, S => still S ∧ Q (.ref S.length) (S ++ [.dk acc])
  | x :: r, acc, S => still S ∧ g x (wipeW env vs) S fun env2 S2 => tt env2 S2 fun b S3 => if b = true then tk env2 S3 fun y S4 => tv env2 S4 fun z S5 => ∃ k, y = wK k ∧ acc.length < sizeLine ∧ dictW g tt tk tv vs still env Q r (putW acc k z) S5
      else dictW g tt tk tv vs still env Q r acc S3
def dDictC (di : DI) (g : DG) (tt : DT) (tk tv : DE) (vs : List Nat) : DE := fun env S Q => di env S fun its still S1 => dictW g tt tk tv vs still env Q its [] S1
theorem sim_dictC {K : Fg} {wi : TI} {tg : TG} {tt : TT} {tk tv : TE} {di : DI} {g : DG} {dt : DT} {dk dv : DE} {vs : List Nat} (si : SimI K wi di) (sg : SimG K tg g) (og : OwnG tg vs) (st : SimT K tt dt) (sk : Sim K tk dk) (sv : Sim K tv dv) : Sim K (tDc wi tg tt tk tv vs) (dDictC di g dt dk dv vs) := by
  intro r H S s env Q Q0 R E d k
  refine si r H S s env _ _ R E d fun r1 H1 S1 J its still e1 R1 ok d1 => ?_
  intro Dl hD
  have nD := R1.notin hD
  refine ⟨fun i m H' => i + m = its.length ∧ ∃ r' S' acc accv, Ext K r1 H1 r' H' ∧ RelS K r' H' S' ∧ Dl ∉ r' ∧ H' Dl = some (.dK accv) ∧ RelKV K r' H' accv acc ∧ dictW g dt dk dv vs still env Q (its.drop i) acc S',
    ⟨its.length, by omega, r1, S1, [], [], ext_new hD, rel_new R1 hD, nD, upd_same, kv_nil, d1⟩, ?_⟩
  rintro i m H' ⟨hm, r', S', acc, accv, e', R', n', hl, ra, d'⟩
  cases hx : its[i]? with
  | none =>
    have hle : its.length ≤ i := List.getElem?_eq_none_iff.mp hx
    rw [List.drop_of_length_le hle] at d'
    obtain ⟨hst, d'⟩ := d'
    exact .inl ⟨ok.stop r' H' S' i e'.toKp R' hst hle, k _ H' _ _ _ (e1.trans (e'.join hD)) (join_dct R' n' hl ra) (rep_mem R') d'⟩
  | some x =>
    obtain ⟨hlt, ex⟩ := List.getElem?_eq_some_iff.mp hx
    rw [List.drop_eq_getElem_cons hlt, ex] at d'
    obtain ⟨hst, d'⟩ := d'
    obtain ⟨go, yl⟩ := ok.go r' H' S' i x e'.toKp R' hst hx
    refine .inr ⟨go, fun H3 => ∃ r' S' acc accv, Ext K r1 H1 r' H3 ∧ RelS K r' H3 S' ∧ Dl ∉ r' ∧ H3 Dl = some (.dK accv) ∧ RelKV K r' H3 accv acc ∧ dictW g dt dk dv vs still env Q (its.drop (i + 1)) acc S', fun H3 h3 => ⟨m - 1, by omega, by omega, h3⟩, fun v H3 hy => ?_⟩
    obtain ⟨e3, R3, q3⟩ := yl v H3 hy
    have e13 := e'.trans e3
    obtain ⟨n3, hl3⟩ := e3.apart n' hl
    have E3 := (E.mono (e1.trans e13)).wipe vs
    refine og v (wipe s vs) H3 _ _ (wipe s vs) rfl (sg r' H3 S' (wipe s vs) (wipeW env vs) v x _ (fun s4 H4 => ∃ r4 S4 env4, Ext K r' H3 r4 H4 ∧ RelS K r4 H4 S4 ∧ RepE K r4 H4 s4 env4 ∧ dt env4 S4 fun b S5 => if b = true then dk env4 S5 fun y S6 => dv env4 S6 fun z S7 => ∃ k, y = wK k ∧ acc.length < sizeLine ∧ dictW g dt dk dv vs still env Q (its.drop (i + 1)) (putW acc k z) S7 else dictW g dt dk dv vs still env Q (its.drop (i + 1)) acc S5) R3 E3 q3 d' fun r4 H4 S4 s4 env4 e4 R4 E4 d4 => ⟨r4, S4, env4, e4, R4, E4, d4⟩) fun s4 H4 hw h4 => ?_
    obtain ⟨r4, S4, env4, e4, R4, E4, d4⟩ := h4
    refine ⟨by rw [hw, wipe_wipe], ?_⟩
    refine st r4 H4 S4 s4 env4 _ _ R4 E4 d4 fun r5 H5 S5 b e5 R5 d5 => ?_
    have e15 := (e13.trans e4).trans e5
    have e35 := e4.trans e5
    obtain ⟨n5, hl5⟩ := e35.apart n3 hl3
    cases b with
    | true =>
      rw [if_pos rfl] at d5 ⊢
      refine sk r5 H5 S5 s4 env4 _ _ R5 (E4.mono e5) d5 fun r6 H6 S6 y w e6 R6 q6 d6 => ?_
      refine sv r6 H6 S6 s4 env4 _ _ R6 (E4.mono (e5.trans e6)) d6 fun r7 H7 S7 z wz e7 R7 q7 d7 => ?_
      obtain ⟨kk, rfl, few, d7⟩ := d7
      obtain ⟨n7, hl7⟩ := (e6.trans e7).apart n5 hl5
      have ra7 := kv_mono' (((e3.trans e35).trans e6).trans e7).toKp ra
      refine ⟨accv, kk, rep_key q6 (keyW_wK kk), hl7, by rw [kv_len ra7]; exact few, r7, S7, putW acc kk wz, putK accv kk z, ((e15.trans e6).trans e7).hid hD hl7 trivial, R7.hid n7 hl7 trivial, n7, upd_same, ?_, d7⟩
      exact kv_mono' (Kp.hid hl7 trivial) (kv_put q7 ra7)
    | false =>
      rw [if_neg Bool.false_ne_true] at d5 ⊢
      exact ⟨r5, S5, acc, accv, e15, R5, n5, hl5, kv_mono' (e3.trans e35).toKp ra, d5⟩
section
variable {X : Cx} {pos : Pos}
theorem xe_dictC {kx vx tg iter : Expr} {ifs : List Expr} {scope : Scope} {di : DI} {t : TG} {g : DG} {dt : DT} {dk dv : DE} (own : List (Str × Nat)) (hc : X.calm = true) (hN : X.N.Nodup) (hi : XI X tg iter di) (ok : BlkOk X.N X.env.scope scope own)
    (hg : ∀ (s : Shared) (H : Hp) (C : Addr) (cl : List (Str × Addr)) (fp : List Addr), XCG (X.blk s H scope (compEnvC scope cl C X.env) fp) (own.map (·.2)) tg t g)
    (ht : ∀ (s : Shared) (H : Hp) (C : Addr) (cl : List (Str × Addr)) (fp : List Addr), XTs (X.blk s H scope (compEnvC scope cl C X.env) fp) ifs dt)
    (hk : ∀ (s : Shared) (H : Hp) (C : Addr) (cl : List (Str × Addr)) (fp : List Addr), XE (X.blk s H scope (compEnvC scope cl C X.env) fp) kx dk)
    (he : ∀ (s : Shared) (H : Hp) (C : Addr) (cl : List (Str × Addr)) (fp : List Addr), XE (X.blk s H scope (compEnvC scope cl C X.env) fp) vx dv)
    (hs : ∀ x, foldedSetIterable iter X.env x = pure x := by intro _; rfl) : XE X (.DictComp kx vx [⟨tg, iter, ifs, 0⟩] scope pos) (dDictC di g dt dk dv (own.map (·.2))) := by
  obtain ⟨wi, p, si⟩ := hi.ex
  have g0 := hg {} (fun _ => none) 0 [] []
  exact ⟨_, pe_dc hc hN p ok (fun s H C cl fp => (hg s H C cl fp).pg) (fun s H C cl fp => (ht s H C cl fp).pt) (fun s H C cl fp => (hk s H C cl fp).pe) (fun s H C cl fp => (he s H C cl fp).pe) hs, sim_dictC si g0.sm g0.ow canT_sim canE_sim canE_sim⟩
end
/-! ### bits -/
abbrev vShl := vI2 CPow fun i j => .int (i * 2 ^ j.toNat)
abbrev vShr := vI2 (fun _ j => 0 ≤ j) fun i j => .int (i / 2 ^ j.toNat)
abbrev vBand := vI20 fun i j => .int (Builtin.bitAnd i j)
section
variable {X : Cx} {pos : Pos} {a b c : Expr} {da db : DE}
theorem x_shl (ha : XE X a da) (hb : XE X b db) : XE X (.BinOp a .LShift b pos) (dOp vShl da db) := xe_op op_shl (i2_sim fun _ _ _ _ => .int _) ha hb
theorem x_shr (ha : XE X a da) (hb : XE X b db) : XE X (.BinOp a .RShift b pos) (dOp vShr da db) := xe_op op_shr (i2_sim fun _ _ _ _ => .int _) ha hb
theorem x_band (ha : XE X a da) (hb : XE X b db) : XE X (.BinOp a .BitAnd b pos) (dOp vBand da db) := xe_op op_and (i20_sim fun _ _ _ _ => .int _) ha hb
end
/-! ### range of three -/
def rngC (lo c : Int) (n : Nat) : List W := (List.range n).map fun (i : Nat) => W.int (lo + (i : Int) * c)
theorem rngC_ok {K : Fg} {lo c : Int} {n : Nat} {r : List Addr} {H : Hp} : ItOk K (Itc lo c n) (rngC lo c n) (fun _ => True) r H := by
  refine ⟨fun r' H' S' i x e R _ hx => ?_, fun r' H' S' i e R _ hl => ?_⟩
  · unfold rngC at hx
    rw [List.getElem?_map] at hx
    by_cases hi : i < n
    · rw [List.getElem?_range hi] at hx
      have e2 : W.int (lo + (i : Int) * c) = x := Option.some.inj hx
      subst e2
      refine ⟨hi, fun v H3 hy => ?_⟩
      obtain ⟨rfl, rfl⟩ := hy
      exact ⟨.refl, R, .int _⟩
    · rw [List.getElem?_eq_none (by rw [List.length_range]; omega)] at hx
      cases hx
  · unfold rngC at hl
    rw [List.length_map, List.length_range] at hl
    exact hl
def iRng3 (da : DA) : DI := fun env S Q => da env S fun ws S1 => ∃ (i j c : Int) (n : Nat), ws = [.int i, .int j, .int c] ∧ RgC i j c n ∧ Q (rngC i c n) (fun _ => True) S1
section
variable {X : Cx} {pos : Pos}
theorem xi_range3 {tg a b c : Expr} {da : DA} {p : Pos} (hg : Gl X "range") (hm : X.mg "range" = none) (ha : XA X [a, b, c] da) (hs : starEach [a, b, c] X.env = (false, eval a X.env) :: starEach [b, c] X.env := by rfl) (hpl : (backTo pos (starEach [b, c] X.env)).any (·.1) = false := by rfl) : XI X tg (.Call (.Name "range" p) [a, b, c] [] pos) (iRng3 da) := by
  obtain ⟨t, p, s⟩ := ha.ex
  refine ⟨_, pi_range3 hg hm p hs hpl, fun r H S st env Q Q0 R E g k => ?_⟩
  refine s r H S st env _ _ R E g fun r1 H1 S1 vs ws e1 R1 q1 d1 => ?_
  obtain ⟨i, j, c, n, rfl, h1, q⟩ := d1
  cases q1 with
  | cons a b =>
    cases b with
    | cons b c =>
      cases c with
      | cons c d =>
        cases d
        cases a
        cases b
        cases c
        exact ⟨i, j, _, n, rfl, h1, k r1 H1 S1 _ _ _ e1 R1 rngC_ok q⟩
end
/-! ### sorted(l, key=len) -/
def rSortLen (K : Fg) (v : V) (H : Hp) (Q : VK) : Prop := ∃ (a : Addr) (bs : List (V × Nat)), v = .ref a ∧ SqL K H a (bs.map (·.1)) ∧ (∀ x ∈ bs, ∃ b ys, x.1 = .ref b ∧ SqT K H b ys ∧ ys.length = x.2) ∧
  ∀ p, H p = none → Q (.ref p) (upd H p (.lst ((bs.mergeSort fun x y => decide ((x.2 : Int) ≤ (y.2 : Int))).map (·.1))))
theorem each_valsN {bs : List (V × Nat)} : ∀ {us : List Value}, Vals (bs.map (·.1)) us → PySem.W.EachIs (fun (v : Value) (b : V × Nat) => RelV b.1 v) us bs := by
  induction bs with
  | nil => intro us h; cases h; exact .nil
  | cons b bs ih =>
    intro us h
    cases h with
    | cons p l => exact .cons p (ih l)
theorem vals_eachN {bs : List (V × Nat)} : ∀ {us : List Value}, PySem.W.EachIs (fun (v : Value) (b : V × Nat) => RelV b.1 v) us bs → Vals (bs.map (·.1)) us := fun h => by
  induction h with
  | nil => exact .nil
  | cons r t ih => exact .cons r ih
section
variable {X : Cx} {pos : Pos}
theorem sortLen_run {pins : List (Addr × Obj)} {σ : L2.St} {s : Shared} {H : Hp} {v : V} {u : Value} {Q : VK} (hu : X.A.units + 80 < cLine) (I : Inv X pins σ H s) (r : RelV v u) (h : rSortLen X.K v H Q) :
    wpAny (model X.prog X.w) X.A (call (.builtin "sorted") [u] [(Str.ofString "key", .builtin "len")]) (EP X pins σ Q) X.xe s := by
  obtain ⟨a, bs, rfl, hs, hlen, q⟩ := h
  cases r
  obtain ⟨its, rv, hl, hz⟩ := I.list hs
  have hb : bs.length ≤ sizeLine := by rw [List.length_map] at hz; exact hz
  refine PySem.W.sorted_key_data (R := fun (v : Value) (b : V × Nat) => RelV b.1 v) (bs := bs) (fun x : V × Nat => PyData.int (x.2 : Int)) hl.isList (each_valsN rv) (fun d hd d' hd' => ?_) (.inr fun d hd => ?_) hb (fun x hx => ?_) (PyProof.Rows.ksk_s1 _ _) (fun _ => PyProof.Rows.ksk_l1 _ _) (fun x => PyProof.Rows.ksk_t4 "len" x) (fun v x hv hx h tk kp => ?_) fun out c h' tk kp fr hD hol hout => ?_
  · obtain ⟨x, _, rfl⟩ := List.mem_map.mp hd
    obtain ⟨y, _, rfl⟩ := List.mem_map.mp hd'
    rfl
  · obtain ⟨x, _, rfl⟩ := List.mem_map.mp hd
    exact ⟨(fun e => by cases e), (fun xs e => by cases e)⟩
  · have e : (PyData.int (x.2 : Int)).depth = 0 := rfl
    omega
  · obtain ⟨b, ys, e1, hq, e2⟩ := hlen x hx
    rw [e1] at hv
    cases hv
    obtain ⟨jts, rj, hj, hjz⟩ := I.tuple hq
    have hj2 : PyProof.Rows.IsTup h b jts.toArray := PyProof.Rows.IsTup.keeps hj kp
    have hn : jts.toArray.size = x.2 := by rw [List.size_toArray, ← rj.length]; exact e2
    refine PyProof.Rows.len_tuple (s := { s with heap := h, toks := tk }) hj2 ?_ ?_
    · rw [List.size_toArray, ← rj.length]
      rw [sizeLine_eq] at hjz
      omega
    · refine ⟨h, _, rfl, fun _ _ e => e, ?_⟩
      rw [hn]
      exact .int _ _
  · rw [PySem.W.dataLe_int (fun x : V × Nat => (x.2 : Int))] at hout
    have hv := vals_eachN hout
    refine ⟨.ref _, upd H (s.heap.objs.size + 1) (.lst ((bs.mergeSort fun x y => decide ((x.2 : Int) ≤ (y.2 : Int))).map (·.1))), I.laid (t' := tk) kp (Nat.le_succ _) ⟨?_, out, c, hv, hD⟩, rfl, q _ (I.hok.fresh (Nat.le_succ _))⟩
    rw [List.length_map, List.length_mergeSort]
    exact hb
def wlen : W → Nat
  | .tup ws => ws.length
  | _ => 0
def vSortLen (w : W) (S : Sto) (Q : WK) : Prop := match w with
  | .ref i => ∃ ws, S[i]? = some (.lst ws) ∧ (∀ x ∈ ws, ∃ us, x = .tup us) ∧ Q (.ref S.length) (S ++ [.lst (ws.mergeSort fun x y => decide ((wlen x : Int) ≤ (wlen y : Int)))])
  | _ => False
theorem sortLen_sim {K : Fg} : SimU K (rSortLen K) vSortLen := by
  intro r H S v w Q Q0 R p d k
  cases p <;> try exact d.elim
  rename_i a i hp
  obtain ⟨ws, hi, ht, q⟩ := d
  obtain ⟨xs, h1, l⟩ := R.obj i _ _ hp hi
  have hll : xs.length = ws.length := l.length
  have mem : ∀ c ∈ xs.zip ws, Rep K r H c.1 c.2 := fun c hc => by
    obtain ⟨n, hn, e⟩ := List.mem_iff_getElem.mp hc
    have hn2 : n < ws.length := by rw [List.length_zip] at hn; omega
    obtain ⟨u, hu, pu⟩ := l.get (List.getElem?_eq_getElem hn2)
    rw [List.getElem_zip] at e
    rw [← e]
    have hn1 : n < xs.length := by omega
    rw [List.getElem?_eq_getElem hn1] at hu
    rw [Option.some.inj hu]
    exact pu
  have fst : (xs.zip ws).map (·.1) = xs := by
    rw [List.map_fst_zip]
    omega
  have snd : (xs.zip ws).map (·.2) = ws := by
    rw [List.map_snd_zip]
    omega
  have reps : ∀ cs : List (V × W), (∀ c ∈ cs, Rep K r H c.1 c.2) → RepL K r H (cs.map (·.1)) (cs.map (·.2)) := by
    intro cs
    induction cs with
    | nil => intro _; exact .nil
    | cons c cs ih => exact fun h => .cons (h c List.mem_cons_self) (ih fun d hd => h d (List.mem_cons_of_mem _ hd))
  refine ⟨a, (xs.zip ws).map fun c => (c.1, wlen c.2), rfl, ?_, fun x hx => ?_, fun p hpn => ?_⟩
  · rw [List.map_map]
    show SqL K H a ((xs.zip ws).map (·.1))
    rw [fst]
    exact .of h1
  · obtain ⟨c, hc, rfl⟩ := List.mem_map.mp hx
    have hw : c.2 ∈ ws := by rw [← snd]; exact List.mem_map_of_mem hc
    obtain ⟨us, eu⟩ := ht _ hw
    have pc := mem c hc
    rw [eu] at pc
    obtain ⟨v1, w1⟩ := c
    dsimp only at pc eu ⊢
    subst eu
    cases pc with
    | tup h l2 => exact ⟨_, _, rfl, h, l2.length⟩
  · have e1 : (((xs.zip ws).map fun c => ((c.1, wlen c.2) : V × Nat)).mergeSort fun x y => decide ((x.2 : Int) ≤ (y.2 : Int))).map (·.1) = ((xs.zip ws).mergeSort fun x y => decide ((wlen x.2 : Int) ≤ (wlen y.2 : Int))).map (·.1) := by
      rw [← List.map_mergeSort (r := fun x y : V × W => decide ((wlen x.2 : Int) ≤ (wlen y.2 : Int))) (f := fun c : V × W => ((c.1, wlen c.2) : V × Nat)) (fun _ _ _ _ => rfl), List.map_map]
      rfl
    have e2 : ((xs.zip ws).mergeSort fun x y => decide ((wlen x.2 : Int) ≤ (wlen y.2 : Int))).map (·.2) = ws.mergeSort fun x y => decide ((wlen x : Int) ≤ (wlen y : Int)) := by
      rw [List.map_mergeSort (r := fun x y : V × W => decide ((wlen x.2 : Int) ≤ (wlen y.2 : Int))) (s := fun x y : W => decide ((wlen x : Int) ≤ (wlen y : Int))) (f := fun c : V × W => c.2) (fun _ _ _ _ => rfl), snd]
    rw [e1]
    have rl := reps ((xs.zip ws).mergeSort fun x y => decide ((wlen x.2 : Int) ≤ (wlen y.2 : Int))) fun c hc => mem c (List.mem_mergeSort.mp hc)
    rw [e2] at rl
    exact k _ _ _ _ _ (ext_mem hpn) (new_lst R hpn rl) (rep_mem R) q
def oneV (f : V → Hp → Prop) : List V → Hp → Prop := fun vs H => match vs with
  | [v] => f v H
  | _ => False
theorem oneV_inv {f : V → Hp → Prop} {vs : List V} {H : Hp} (h : oneV f vs H) : ∃ v, vs = [v] ∧ f v H := by
  match vs, h with
  | [v], h => exact ⟨v, rfl, h⟩
theorem xe_sortLen {e : Expr} {d : DE} {p p2 kpos : Pos} (hu : X.A.units + 80 < cLine) (hg : Gl X "sorted") (hm : X.mg "sorted" = none) (hg2 : Gl X "len") (hm2 : X.mg "len" = none) (ha : XE X e d)
    (he : starEach [e] X.env = (false, eval e X.env) :: starEach [] X.env := by rfl) (he2 : backTo pos (starEach [e] X.env) = (false, eval e X.env) :: backTo pos (starEach [] X.env) := by rfl) (hpl : (backTo pos (starEach [e] X.env)).any (·.1) = false := by rfl) :
    XE X (.Call (.Name "sorted" p) [e] [⟨some "key", .Name "len" p2, kpos⟩] pos) (dUn vSortLen d) := by
  obtain ⟨t, pe, se⟩ := ha.ex
  refine ⟨fun σ H Q => t σ H fun v H1 => rSortLen X.K v H1 Q, ⟨fun pins s σ H Q I h => ?_⟩, fun r H S s env Q Q0 R E d k => ?_⟩
  · refine wpAny_Call_Name_kw (ld_blt I hg hm (show bootBuiltins "sorted" = some (.builtin "sorted") by decide +kernel) ?_ (by decide) (by decide))
    refine PyProof.Rows.callWith_kw (thn ((pa_cons pe pa_nil he).run pos pins s σ H (oneV fun v H1 => rSortLen X.K v H1 Q) I h) fun us s1 ⟨vs, H1, I1, r1, q1⟩ => ?_) he2 hpl rfl rfl
    obtain ⟨v, rfl, q2⟩ := oneV_inv q1
    obtain ⟨u, rfl, ru⟩ := vals1 r1
    show wpAny _ _ (evalAll [do let v ← eval (.Name "len" p2) X.env; standAt pos; pure v]) _ _ s1
    refine wpAny_evalAll_cons (wpAny_bind (ld_blt I1 hg2 hm2 (show bootBuiltins "len" = some (.builtin "len") by decide +kernel) (wpAny_bind (wpAny_standAt (wpAny_pure ?_))) (by decide) (by decide)))
    refine wpAny_evalAll_nil ?_
    exact sortLen_run hu I1 ru q2
  · refine se r H S s env _ _ R E d fun r1 H1 S1 v w e1 R1 q1 d1 => ?_
    exact sortLen_sim r1 H1 S1 v w _ _ R1 q1 d1 fun r2 H2 S2 v w e2 => k r2 H2 S2 v w (e1.trans e2)
end
end DL

/-! DR: zip of lists and tuples, mixed too. -/
namespace DL
open PySem PySem.Spec PyProof.Rows L2 RZ
/-- an iterator of a tuple (true) or of a list (false) -/
def Bi (b : Bool) (h : Heap) (i l : Addr) (k : Nat) : Prop := match b with
  | true => h.IsTupleIter i l k
  | false => h.IsListIter i l k
def Sb (b : Bool) (h : Heap) (l : Addr) (xs : Array Value) : Prop := match b with
  | true => h.IsTuple l xs
  | false => h.IsList l xs
theorem Bi.at {b : Bool} {h h' : Heap} {i l : Addr} {k : Nat} (x : Bi b h i l k) (e : ∀ o, h.get? i = some o → h'.get? i = some o) : Bi b h' i l k := by
  cases b
  · exact Heap.IsListIter.at x e
  · exact Heap.IsTupleIter.at x e
theorem Sb.at {b : Bool} {h h' : Heap} {l : Addr} {xs : Array Value} (x : Sb b h l xs) (e : ∀ o, h.get? l = some o → h'.get? l = some o) : Sb b h' l xs := by
  cases b
  · exact Heap.IsList.at x e
  · exact Heap.IsTuple.at x e
theorem Bi.ext {b : Bool} {h h' : Heap} {i l c : Addr} {k : Nat} (x : Bi b h i l k) (e : Heap.ExtBut c h h') (n : i ≠ c) : Bi b h' i l k := x.at fun o q => e _ _ n q
theorem Sb.ext {b : Bool} {h h' : Heap} {l c : Addr} {xs : Array Value} (x : Sb b h l xs) (e : Heap.ExtBut c h h') (n : l ≠ c) : Sb b h' l xs := x.at fun o q => e _ _ n q
theorem Bi.obj {b : Bool} {h : Heap} {i l : Addr} {k : Nat} (x : Bi b h i l k) : ∃ o, h.get? i = some o ∧ ∀ v, o.data ≠ .cell v := by
  cases b
  · obtain ⟨o, e, _, d⟩ := (show h.IsListIter i l k from x)
    exact ⟨o, e, fun v q => by rw [d] at q; cases q⟩
  · obtain ⟨o, e, _, d⟩ := (show h.IsTupleIter i l k from x)
    exact ⟨o, e, fun v q => by rw [d] at q; cases q⟩
theorem Bi.lt {b : Bool} {h : Heap} {i l : Addr} {k : Nat} (x : Bi b h i l k) : i < h.objs.size := by
  obtain ⟨o, e, _⟩ := x.obj
  exact Heap.lt_size e
section
variable {prog : Program} {w : World} {A : Around} {E : Value → Shared → Prop} {s : Shared}
theorem next_item {b : Bool} {it l : Addr} {i : Nat} {items : Array Value} {x : Value} {Q : Value → Shared → Prop} (hit : Bi b s.heap it l i) (hl : Sb b s.heap l items) (hx : items[i]? = some x)
    (hQ : ∀ h', Bi b h' it l (i + 1) → Heap.SameBut it s.heap h' → Q x { s with heap := h' }) : wpAny (model prog w) A (Builtin.SmallTypes.nextOf (.ref it)) Q E s := by
  cases b
  · exact wpAny_nextOf_list_item hit hl hx hQ
  · exact RZ.nextOf_tuple_item hit hl hx hQ
theorem next_end {b : Bool} {it l : Addr} {i : Nat} {items : Array Value} {Q : Value → Shared → Prop} (hh : A.handled = none) (hit : Bi b s.heap it l i) (hl : Sb b s.heap l items) (hx : items[i]? = none)
    (hE : ∀ h' e, Heap.ExtBut it s.heap h' → (∃ o, h'.get? e = some o ∧ o.cls = .type "StopIteration") → E (.ref e) { s with heap := h' }) : wpAny (model prog w) A (Builtin.SmallTypes.nextOf (.ref it)) Q E s := by
  cases b
  · exact wpAny_nextOf_list_end hh hit hl (by rw [Array.getElem?_eq_none_iff] at hx; first | exact hx | simpa using hx) hE
  · exact RZ.nextOf_tuple_end hh hit hl hx hE
end
/-! ### a turn of zip -/
section
variable {prog : Program} {w : World} {A : Around} {E : Value → Shared → Prop} {s : Shared} {b1 b2 : Bool} {z TI TO i1 i2 l1 l2 : Addr} {k1 k2 : Nat} {xs ys : Array Value} {a b : Value}
theorem zipX_item {x y : Value} {Q : Value → Shared → Prop} (D : ZipApart z TI TO i1 i2 l1 l2)
    (hz : IsZip s.heap z TI TO .none) (hTI : IsPair s.heap TI (.ref i1) (.ref i2)) (hTO : IsPair s.heap TO a b) (h1 : Bi b1 s.heap i1 l1 k1) (h2 : Bi b2 s.heap i2 l2 k2) (hl1 : Sb b1 s.heap l1 xs) (hl2 : Sb b2 s.heap l2 ys) (hx : xs[k1]? = some x) (hy : ys[k2]? = some y)
    (hQ : ∀ h', IsZip h' z TI TO (rawInt s.heap.objs.size) → IsPair h' TO x y → Bi b1 h' i1 l1 (k1 + 1) → Bi b2 h' i2 l2 (k2 + 1) → IsPair h' s.heap.objs.size x y →
      (∀ c o, c ≠ z → c ≠ TO → c ≠ i1 → c ≠ i2 → s.heap.get? c = some o → h'.get? c = some o) → Q (.ref s.heap.objs.size) { s with heap := h' }) :
    wpAny (model prog w) A (Builtin.«zip.__next__» ⟨[.ref z], []⟩) (fun fin s' => ∃ v, fin = .done (.ret v) ∧ Q v s') E s := by
  show wpAny _ _ (field (.ref z) 2 >>= _) _ _ _
  refine wpAny_bind (wpAny_field hz rfl (x := .bool false) rfl ?_)
  show wpAny _ _ (field (.ref z) 3 >>= _) _ _ _
  refine wpAny_bind (wpAny_field hz rfl (x := .ref TI) rfl ?_)
  refine wpAny_bind (wpAny_seqItems hTI rfl ?_)
  show wpAny _ _ (Builtin.SmallTypes.ownedTupleIsFree (.ref z) >>= _) _ _ _
  refine wpAny_bind ?_
  unfold Builtin.SmallTypes.ownedTupleIsFree
  refine wpAny_bind (wpAny_field hz rfl (x := .none) rfl (wpAny_pure ?_))
  simp only [if_true]
  refine wpAny_bind (wpAny_rule ?_)
  refine wpAny_bind (wpAny_field hz rfl (x := .ref TO) rfl ?_)
  refine wpAny_bind (wpAny_setField_rec hz (by simp) fun g1 zz1 e1 => ?_)
  replace zz1 : IsZip g1 z TI TO .ellipsis := zz1
  refine wpAny_bind ?_
  simp only [List.zipIdx_cons, List.zipIdx_nil, List.forIn_cons, List.forIn_nil]
  refine wpAny_bind (wpAny_bind (wpAny_onRaise ?_))
  show wpAny _ _ (Builtin.SmallTypes.nextOf (.ref i1) >>= _) _ _ _
  refine wpAny_bind (next_item (h1.ext e1.extBut D.i1z) (hl1.ext e1.extBut D.l1z) hx fun g2 n1 e2 => wpAny_pure ?_)
  have hTO2 : IsPair g2 TO a b := e2.extBut _ _ D.TOi1 (e1.extBut _ _ D.TOz hTO)
  refine wpAny_bind (wpAny_seqItems hTO2 rfl ?_)
  refine wpAny_bind (wpAny_updateSeq_pair hTO2 fun g3 hTO3 e3 => ?_)
  replace hTO3 : IsPair g3 TO x b := hTO3
  refine wpAny_bind (wpAny_letGo (wpAny_pure ?_))
  refine wpAny_bind (wpAny_bind (wpAny_onRaise ?_))
  show wpAny _ _ (Builtin.SmallTypes.nextOf (.ref i2) >>= _) _ _ _
  refine wpAny_bind (next_item (((h2.ext e1.extBut D.i2z).ext e2.extBut D.i12.symm).ext e3.extBut D.TOi2.symm) (((hl2.ext e1.extBut D.l2z).ext e2.extBut D.l2i1).ext e3.extBut D.l2TO) hy fun g4 n2 e4 => wpAny_pure ?_)
  have hTO4 : IsPair g4 TO x b := e4.extBut _ _ D.TOi2 hTO3
  refine wpAny_bind (wpAny_seqItems hTO4 rfl ?_)
  refine wpAny_bind (wpAny_updateSeq_pair hTO4 fun g5 hTO5 e5 => ?_)
  replace hTO5 : IsPair g5 TO x y := hTO5
  refine wpAny_bind (wpAny_letGo (wpAny_pure (wpAny_pure ?_)))
  refine wpAny_bind (wpAny_seqItems hTO5 rfl ?_)
  refine wpAny_bind (wpAny_newTuple ?_)
  have hsz : g5.objs.size = s.heap.objs.size := by rw [e5.1, e4.1, e3.1, e2.1, e1.1]
  have zz5 : IsZip g5 z TI TO .ellipsis := e5.extBut _ _ D.TOz.symm (e4.extBut _ _ D.i2z.symm (e3.extBut _ _ D.TOz.symm (e2.extBut _ _ D.i1z.symm zz1)))
  have hk5 : ∀ c o, c ≠ z → c ≠ TO → c ≠ i1 → c ≠ i2 → s.heap.get? c = some o → g5.get? c = some o := fun c o c1 c2 c3 c4 e =>
    e5.extBut _ _ c2 (e4.extBut _ _ c4 (e3.extBut _ _ c2 (e2.extBut _ _ c3 (e1.extBut _ _ c1 e))))
  have m1 : Bi b1 g5 i1 l1 (k1 + 1) := ((n1.ext e3.extBut D.TOi1.symm).ext e4.extBut D.i12).ext e5.extBut D.TOi1.symm
  have m2 : Bi b2 g5 i2 l2 (k2 + 1) := n2.ext e5.extBut D.TOi2.symm
  have hzlt : z < g5.objs.size := Heap.lt_size zz5
  show wpAny _ _ (Builtin.SmallTypes.ownedTupleHandOut (.ref z) (.ref g5.objs.size) >>= _) _ _ _
  refine wpAny_bind ?_
  unfold Builtin.SmallTypes.ownedTupleHandOut
  have zz6 : IsZip (g5.push { cls := .type "tuple", data := .seq #[x, y] }) z TI TO .ellipsis := Heap.get?_push_of_some _ zz5
  refine wpAny_bind (wpAny_setField_rec zz6 (by simp) fun g7 zz7 e7 => ?_)
  replace zz7 : IsZip g7 z TI TO (rawInt g5.objs.size) := zz7
  refine wpAny_setField_rec zz7 (by simp) fun g8 zz8 e8 => ?_
  replace zz8 : IsZip g8 z TI TO (rawInt g5.objs.size) := zz8
  have up : ∀ c o, c ≠ z → g5.get? c = some o → g8.get? c = some o := fun c o c1 e => e8.extBut _ _ c1 (e7.extBut _ _ c1 (Heap.get?_push_of_some _ e))
  have T8 : IsPair g8 g5.objs.size x y := e8.extBut _ _ (Nat.ne_of_gt hzlt) (e7.extBut _ _ (Nat.ne_of_gt hzlt) (Heap.get?_push_size _ rfl))
  rw [hsz] at zz8 T8
  refine wpAny_pure ⟨_, rfl, ?_⟩
  show Q (.ref g5.objs.size) _
  rw [hsz]
  exact hQ g8 zz8 (up _ _ D.TOz hTO5) (m1.at fun o e => up _ o D.i1z e) (m2.at fun o e => up _ o D.i2z e) T8 fun c o c1 c2 c3 c4 e => up c o c1 (hk5 c o c1 c2 c3 c4 e)
theorem zipX_end {Q : PySem.Fin → Shared → Prop} (hh : A.handled = none) (D : ZipApart z TI TO i1 i2 l1 l2)
    (hz : IsZip s.heap z TI TO .none) (hTI : IsPair s.heap TI (.ref i1) (.ref i2)) (hTO : IsPair s.heap TO a b) (h1 : Bi b1 s.heap i1 l1 k1) (h2 : Bi b2 s.heap i2 l2 k2) (hl1 : Sb b1 s.heap l1 xs) (hl2 : Sb b2 s.heap l2 ys) (hend : xs[k1]? = none ∨ ys[k2]? = none)
    (hE : ∀ h' e, (∀ c o, c ≠ z → c ≠ TO → c ≠ i1 → c ≠ i2 → s.heap.get? c = some o → h'.get? c = some o) → (∃ o, h'.get? e = some o ∧ o.cls = .type "StopIteration") → E (.ref e) { s with heap := h' }) :
    wpAny (model prog w) A (Builtin.«zip.__next__» ⟨[.ref z], []⟩) Q E s := by
  show wpAny _ _ (field (.ref z) 2 >>= _) _ _ _
  refine wpAny_bind (wpAny_field hz rfl (x := .bool false) rfl ?_)
  show wpAny _ _ (field (.ref z) 3 >>= _) _ _ _
  refine wpAny_bind (wpAny_field hz rfl (x := .ref TI) rfl ?_)
  refine wpAny_bind (wpAny_seqItems hTI rfl ?_)
  show wpAny _ _ (Builtin.SmallTypes.ownedTupleIsFree (.ref z) >>= _) _ _ _
  refine wpAny_bind ?_
  unfold Builtin.SmallTypes.ownedTupleIsFree
  refine wpAny_bind (wpAny_field hz rfl (x := .none) rfl (wpAny_pure ?_))
  simp only [if_true]
  refine wpAny_bind (wpAny_rule ?_)
  refine wpAny_bind (wpAny_field hz rfl (x := .ref TO) rfl ?_)
  refine wpAny_bind (wpAny_setField_rec hz (by simp) fun g1 zz1 e1 => ?_)
  replace zz1 : IsZip g1 z TI TO .ellipsis := zz1
  refine wpAny_bind ?_
  simp only [List.zipIdx_cons, List.zipIdx_nil, List.forIn_cons, List.forIn_nil]
  refine wpAny_bind (wpAny_bind (wpAny_onRaise ?_))
  show wpAny _ _ (Builtin.SmallTypes.nextOf (.ref i1) >>= _) _ _ _
  cases hx : xs[k1]? with
  | none =>
    refine wpAny_bind (next_end hh (h1.ext e1.extBut D.i1z) (hl1.ext e1.extBut D.l1z) hx fun g2 e e2 he => ?_)
    obtain ⟨oe, hoe, hce⟩ := he
    have zz2 : IsZip g2 z TI TO .ellipsis := e2 _ _ D.i1z.symm zz1
    have hez : e ≠ z := fun q => by subst q; rw [zz2] at hoe; cases hoe; simp at hce
    refine wpAny_setField_rec zz2 (by simp) fun g3 _ e3 => hE g3 e (fun c o c1 _ c3 _ q => e3.extBut _ _ c1 (e2 _ _ c3 (e1.extBut _ _ c1 q))) ⟨oe, e3.extBut _ _ hez hoe, hce⟩
  | some x =>
    have hy : ys[k2]? = none := by rcases hend with h | h; rw [hx] at h; cases h; exact h
    refine wpAny_bind (next_item (h1.ext e1.extBut D.i1z) (hl1.ext e1.extBut D.l1z) hx fun g2 n1 e2 => wpAny_pure ?_)
    have hTO2 : IsPair g2 TO a b := e2.extBut _ _ D.TOi1 (e1.extBut _ _ D.TOz hTO)
    refine wpAny_bind (wpAny_seqItems hTO2 rfl ?_)
    refine wpAny_bind (wpAny_updateSeq_pair hTO2 fun g3 hTO3 e3 => ?_)
    refine wpAny_bind (wpAny_letGo (wpAny_pure ?_))
    refine wpAny_bind (wpAny_bind (wpAny_onRaise ?_))
    show wpAny _ _ (Builtin.SmallTypes.nextOf (.ref i2) >>= _) _ _ _
    refine wpAny_bind (next_end hh (((h2.ext e1.extBut D.i2z).ext e2.extBut D.i12.symm).ext e3.extBut D.TOi2.symm) (((hl2.ext e1.extBut D.l2z).ext e2.extBut D.l2i1).ext e3.extBut D.l2TO) hy fun g4 e e4 he => ?_)
    obtain ⟨oe, hoe, hce⟩ := he
    have zz4 : IsZip g4 z TI TO .ellipsis := e4 _ _ D.i2z.symm (e3.extBut _ _ D.TOz.symm (e2.extBut _ _ D.i1z.symm zz1))
    have hez : e ≠ z := fun q => by subst q; rw [zz4] at hoe; cases hoe; simp at hce
    refine wpAny_setField_rec zz4 (by simp) fun g5 _ e5 => hE g5 e (fun c o c1 c2 c3 c4 q => e5.extBut _ _ c1 (e4 _ _ c4 (e3.extBut _ _ c2 (e2.extBut _ _ c3 (e1.extBut _ _ c1 q))))) ⟨oe, e5.extBut _ _ hez hoe, hce⟩
theorem pyNext_zipX_item {x y : Value} {Q : Option Value → Shared → Prop} (D : ZipApart z TI TO i1 i2 l1 l2)
    (hz : IsZip s.heap z TI TO .none) (hTI : IsPair s.heap TI (.ref i1) (.ref i2)) (hTO : IsPair s.heap TO a b) (h1 : Bi b1 s.heap i1 l1 k1) (h2 : Bi b2 s.heap i2 l2 k2) (hl1 : Sb b1 s.heap l1 xs) (hl2 : Sb b2 s.heap l2 ys) (hx : xs[k1]? = some x) (hy : ys[k2]? = some y)
    (hQ : ∀ h', IsZip h' z TI TO (rawInt s.heap.objs.size) → IsPair h' TO x y → Bi b1 h' i1 l1 (k1 + 1) → Bi b2 h' i2 l2 (k2 + 1) → IsPair h' s.heap.objs.size x y →
      (∀ c o, c ≠ z → c ≠ TO → c ≠ i1 → c ≠ i2 → s.heap.get? c = some o → h'.get? c = some o) → Q (some (.ref s.heap.objs.size)) { s with heap := h' }) : wpAny (model prog w) A (pyNext (.ref z)) Q E s := by
  have hT : s.TypeIs (.ref z) "zip" := ⟨_, hz, rfl⟩
  unfold pyNext
  exact wpAny_bind (wpAny_attempt (wpAny_callSpecial?_slot (name := Str.ofString "__next__") hT F.slot_zip_next
    (wpAny_call_entry F.slot_zip_next hT F.entry_zip_next (zipX_item D hz hTI hTO h1 h2 hl1 hl2 hx hy fun h' a1 a2 a3 a4 a5 a7 => wpAny_pure (hQ h' a1 a2 a3 a4 a5 a7)) (F.args_zip_next_1 _))))
theorem pyNext_zipX_end {Q : Option Value → Shared → Prop} (hh : A.handled = none) (D : ZipApart z TI TO i1 i2 l1 l2)
    (hz : IsZip s.heap z TI TO .none) (hTI : IsPair s.heap TI (.ref i1) (.ref i2)) (hTO : IsPair s.heap TO a b) (h1 : Bi b1 s.heap i1 l1 k1) (h2 : Bi b2 s.heap i2 l2 k2) (hl1 : Sb b1 s.heap l1 xs) (hl2 : Sb b2 s.heap l2 ys) (hend : xs[k1]? = none ∨ ys[k2]? = none)
    (hQ : ∀ h', (∀ c o, c ≠ z → c ≠ TO → c ≠ i1 → c ≠ i2 → s.heap.get? c = some o → h'.get? c = some o) → Q none { s with heap := h' }) : wpAny (model prog w) A (pyNext (.ref z)) Q E s := by
  have hT : s.TypeIs (.ref z) "zip" := ⟨_, hz, rfl⟩
  unfold pyNext
  refine wpAny_bind (wpAny_attempt (wpAny_callSpecial?_slot (name := Str.ofString "__next__") hT F.slot_zip_next
    (wpAny_call_entry F.slot_zip_next hT F.entry_zip_next (zipX_end hh D hz hTI hTO h1 h2 hl1 hl2 hend fun h' e hk he => ?_) (F.args_zip_next_1 _))))
  obtain ⟨o, ho, hc⟩ := he
  refine wpAny_bind (wpAny_isInstance (T := "StopIteration") (b := true) ⟨o, ho, hc⟩ isSubtype_stop ?_)
  exact wpAny_pure (hQ _ hk)
end
/-! ### zip of a tuple and a list, made -/
abbrev zH1 (h : Heap) (l1 : Addr) : Heap := h.push { cls := .type "tuple_iterator", data := .fields #[.ref l1, .int 0 0] }
abbrev zH2 (h : Heap) (l1 l2 : Addr) : Heap := (zH1 h l1).push { cls := .type "list_iterator", data := .fields #[.ref l2, .int 0 0] }
abbrev zH3 (h : Heap) (l1 l2 : Addr) : Heap := (zH2 h l1 l2).push { cls := .type "tuple", data := .seq #[.ref h.objs.size, .ref (zH1 h l1).objs.size] }
abbrev zH4 (h : Heap) (l1 l2 : Addr) : Heap := (zH3 h l1 l2).push { cls := .type "tuple", data := .seq #[.none, .none] }
abbrev zH5 (h : Heap) (l1 l2 : Addr) : Heap := (zH4 h l1 l2).push { cls := .type "zip", data := .fields #[.none, .bool false, .bool false, .ref (zH2 h l1 l2).objs.size, .ref (zH3 h l1 l2).objs.size] }
theorem meets_zipTL (l1 l2 : Addr) (xs ys : Array Value) :
    Meets (Builtin.«zip.__new__» ⟨[.type "zip", .ref l1, .ref l2], []⟩) (fun _ R s => s.heap.IsTuple l1 xs ∧ s.heap.IsList l2 ys ∧
      R (.ok (.ret (.ref (zH4 s.heap l1 l2).objs.size))) { s with heap := zH5 s.heap l1 l2 }) :=
  .of_wp fun prog w A R s h => by
    obtain ⟨hp, g, d, tk, os⟩ := s; obtain ⟨hl1, hl2, h⟩ := h
    have hsub := sub_zip
    have hL1 : Heap.IsTuple (Shared.heap ⟨hp, g, d, tk, os⟩) l1 xs := hl1
    have hL2 : Heap.IsList (Shared.heap ⟨hp.push { cls := .type "tuple_iterator", data := .fields #[.ref l1, .int 0 0] }, g, d, tk, os⟩) l2 ys := Heap.IsList.push hl2 _
    wp_walk using wpAny_pyIter_tuple hL1, wpAny_pyIter_list hL2
    exact ⟨_, rfl, h⟩
section
variable {prog : Program} {w : World} {A : Around} {E : Value → Shared → Prop} {s : Shared}
theorem call_zipTL {l1 l2 : Addr} {xs ys : Array Value} {Q : Value → Shared → Prop} (hl1 : s.heap.IsTuple l1 xs) (hl2 : s.heap.IsList l2 ys)
    (h : ∀ h', IsZip h' (s.heap.objs.size + 4) (s.heap.objs.size + 2) (s.heap.objs.size + 3) .none → IsPair h' (s.heap.objs.size + 2) (.ref s.heap.objs.size) (.ref (s.heap.objs.size + 1)) →
      IsPair h' (s.heap.objs.size + 3) .none .none → h'.IsTupleIter s.heap.objs.size l1 0 → h'.IsListIter (s.heap.objs.size + 1) l2 0 →
      (∀ c o, s.heap.get? c = some o → h'.get? c = some o) → Q (.ref (s.heap.objs.size + 4)) { s with heap := h' }) :
    wpAny (model prog w) A (call (.type "zip") [.ref l1, .ref l2]) Q E s := by
  refine callType_new F.called_zip (by decide) (F.typeCall_zip_2 _ _) (F.newCall_zip_2 _ _) (fun obj => F.args_object_init_3 obj _ _) F.entry_zip_new
    (meets_zipTL l1 l2 xs ys) ⟨hl1, hl2, ?_⟩
  have z1 : (zH1 s.heap l1).objs.size = s.heap.objs.size + 1 := Heap.size_push ..
  have z2 : (zH2 s.heap l1 l2).objs.size = s.heap.objs.size + 2 := by rw [Heap.size_push, z1]
  have z3 : (zH3 s.heap l1 l2).objs.size = s.heap.objs.size + 3 := by rw [Heap.size_push, z2]
  have z4 : (zH4 s.heap l1 l2).objs.size = s.heap.objs.size + 4 := by rw [Heap.size_push, z3]
  have g5 : (zH5 s.heap l1 l2).get? (zH4 s.heap l1 l2).objs.size = some _ := Heap.get?_push_size _ rfl
  have g4 : (zH5 s.heap l1 l2).get? (zH3 s.heap l1 l2).objs.size = some _ := Heap.get?_push_of_some _ (Heap.get?_push_size _ rfl)
  have g3 : (zH5 s.heap l1 l2).get? (zH2 s.heap l1 l2).objs.size = some _ := Heap.get?_push_of_some _ (Heap.get?_push_of_some _ (Heap.get?_push_size _ rfl))
  have g2 : (zH5 s.heap l1 l2).get? (zH1 s.heap l1).objs.size = some _ := Heap.get?_push_of_some _ (Heap.get?_push_of_some _ (Heap.get?_push_of_some _ (Heap.get?_push_size _ rfl)))
  have g1 : (zH5 s.heap l1 l2).get? s.heap.objs.size = some _ := Heap.get?_push_of_some _ (Heap.get?_push_of_some _ (Heap.get?_push_of_some _ (Heap.get?_push_of_some _ (Heap.get?_push_size _ rfl))))
  show _ ∧ _
  rw [z2, z3, z4] at g5
  rw [z1, z2] at g3
  rw [z3] at g4
  rw [z1] at g2
  rw [z4]
  exact ⟨⟨_, g5, rfl⟩, h _ g5 g3 g4 ⟨_, g1, rfl, rfl⟩ ⟨_, g2, rfl, rfl⟩ fun c o x =>
    Heap.get?_push_of_some _ (Heap.get?_push_of_some _ (Heap.get?_push_of_some _ (Heap.get?_push_of_some _ (Heap.get?_push_of_some _ x))))⟩
end
/-! ### the turns of zip -/
def SqX (K : Fg) (b : Bool) (H : Hp) (a : Addr) (xs : List V) : Prop := match b with
  | true => SqT K H a xs
  | false => SqL K H a xs
theorem sqX_at {X : Cx} {pins : List (Addr × Obj)} {σ : L2.St} {H : Hp} {s : Shared} {b : Bool} {a : Addr} {xs : List V} (I : Inv X pins σ H s) (h : SqX X.K b H a xs) : ∃ its : List Value, Vals xs its ∧ Sb b s.heap a its.toArray := by
  cases b
  · obtain ⟨its, rv, p, _⟩ := I.list h
    exact ⟨its, rv, p.isList⟩
  · obtain ⟨its, rv, p, _⟩ := I.tuple h
    exact ⟨its, rv, show s.heap.IsTuple a its.toArray from p⟩
theorem sqX_inj {X : Cx} {pins : List (Addr × Obj)} {σ : L2.St} {H : Hp} {s : Shared} {b : Bool} {a : Addr} {xs ys : List V} (I : Inv X pins σ H s) (h : SqX X.K b H a xs) (h' : SqX X.K b H a ys) : xs = ys := by
  cases b
  · exact I.list_inj h h'
  · exact I.tuple_inj h h'
theorem sqX_lt {b : Bool} {h : Heap} {a : Addr} {its : Array Value} (x : Sb b h a its) : a < h.objs.size := by
  cases b
  · obtain ⟨o, e, _⟩ := (show h.IsList a its from x)
    exact Heap.lt_size e
  · obtain ⟨o, e, _⟩ := (show h.IsTuple a its from x)
    exact Heap.lt_size e
def ItzX (K : Fg) (b1 b2 : Bool) (a b : Addr) : It :=
  ⟨fun i H => ∃ (xs ys : List V) (x y : V), SqX K b1 H a xs ∧ SqX K b2 H b ys ∧ xs[i]? = some x ∧ ys[i]? = some y,
    fun i H v H' => ∃ T x y, v = .ref T ∧ H T = none ∧ H' = upd H T (.tup [x, y]) ∧ (∀ xs, SqX K b1 H a xs → xs[i]? = some x) ∧ ∀ ys, SqX K b2 H b ys → ys[i]? = some y,
    fun i H => ∃ xs ys : List V, SqX K b1 H a xs ∧ SqX K b2 H b ys ∧ (xs.length ≤ i ∨ ys.length ≤ i)⟩
theorem turn_zipX {P : Program} {w : World} {K : Fg} {b1 b2 : Bool} {elts : List Expr} {kk : Nat} {tpos : Pos} {a b z TI TO i1 i2 : Addr} (D : ZipApart z TI TO i1 i2 a b) :
    Turn P w K (.Tuple elts kk tpos) (ItzX K b1 b2 a b) [z, TI, TO, i1, i2] z (fun i h => IsZip h z TI TO .none ∧ IsPair h TI (.ref i1) (.ref i2) ∧ (∃ x y, IsPair h TO x y) ∧ Bi b1 h i1 a i ∧ Bi b2 h i2 b i) where
  mem := by simp
  obj := fun i h st c hc => by
    obtain ⟨hz, hTI, ⟨x, y, hTO⟩, h1, h2⟩ := st
    have e' : c = z ∨ c = TI ∨ c = TO ∨ c = i1 ∨ c = i2 := by simpa using hc
    rcases e' with q | q | q | q | q
    · rw [q]; exact ⟨_, hz, fun v q => nomatch q⟩
    · rw [q]; exact ⟨_, hTI, fun v q => nomatch q⟩
    · rw [q]; exact ⟨_, hTO, fun v q => nomatch q⟩
    · rw [q]; exact h1.obj
    · rw [q]; exact h2.obj
  keep := fun i h h' st k => by
    obtain ⟨hz, hTI, ⟨x, y, hTO⟩, h1, h2⟩ := st
    exact ⟨k z (by simp) _ hz, k TI (by simp) _ hTI, ⟨x, y, k TO (by simp) _ hTO⟩, h1.at fun o q => k i1 (by simp) o q, h2.at fun o q => k i2 (by simp) o q⟩
  item := by
    intro X hP hw hK hc i pins s σ H E I hf st hg
    subst hP hw hK
    obtain ⟨hz, hTI, ⟨x0, y0, hTO⟩, h1, h2⟩ := st
    obtain ⟨xs, ys, x, y, hqx, hqy, hx, hy⟩ := hg
    obtain ⟨its, rv, p⟩ := sqX_at I hqx
    obtain ⟨its2, rv2, p2⟩ := sqX_at I hqy
    obtain ⟨u, hu, ru⟩ := rv.get hx
    obtain ⟨u2, hu2, ru2⟩ := rv2.get hy
    have hzl : z < s.heap.objs.size := Heap.lt_size hz
    refine pyNext_zipX_item D hz hTI hTO h1 h2 p p2 (x := u) (y := u2) (by simpa using hu) (by simpa using hu2) fun h' z' TO' h1' h2' hT hk => ?_
    refine ⟨_, rfl, wpAny_letOwnedTupleGo_zip (s := { s with heap := h' }) z' fun h'' z'' sb => ?_⟩
    have hT2 : h''.get? s.heap.objs.size = some { cls := .type "tuple", data := .seq #[u, u2] } := (sb.2 _ (Nat.ne_of_gt hzl)).trans hT
    have new : ObjOk X.prog X.w (upd H s.heap.objs.size (.tup [x, y])) h'' s.heap.objs.size (.tup [x, y]) :=
      ⟨by show 2 ≤ sizeLine; decide, [u, u2], .cons ru (.cons ru2 .nil), ⟨_, hT2, rfl, _, rfl⟩⟩
    have I1 : Inv X pins σ (upd H s.heap.objs.size (.tup [x, y])) { s with heap := h'' } :=
      I.turnedNew (t' := s.toks) (ch := [z, TI, TO, i1, i2]) (fun c o hb q => (sb.2 c (fun q' => hb (by simp [q']))).trans (hk c o (fun q' => hb (by simp [q'])) (fun q' => hb (by simp [q'])) (fun q' => hb (by simp [q'])) (fun q' => hb (by simp [q'])) q)) hf (Nat.le_refl _) new
    refine ⟨.ref s.heap.objs.size, _, I1, rfl, ⟨_, x, y, rfl, I.hok.fresh (Nat.le_refl _), rfl, fun l hl => by rw [sqX_inj I hl hqx]; exact hx, fun l hl => by rw [sqX_inj I hl hqy]; exact hy⟩, ⟨z'', ?_, ⟨u, u2, ?_⟩, ?_, ?_⟩, fun c hcm => ?_⟩
    · exact (sb.2 _ D.TIz).trans (hk _ _ D.TIz D.TITO D.TIi1 D.TIi2 hTI)
    · exact (sb.2 _ D.TOz).trans TO'
    · exact h1'.at fun o q => (sb.2 _ D.i1z).trans q
    · exact h2'.at fun o q => (sb.2 _ D.i2z).trans q
    · have hlt : c < s.heap.objs.size := by
        have e' : c = z ∨ c = TI ∨ c = TO ∨ c = i1 ∨ c = i2 := by simpa using hcm
        rcases e' with q | q | q | q | q
        · rw [q]; exact hzl
        · rw [q]; exact Heap.lt_size hTI
        · rw [q]; exact Heap.lt_size hTO
        · rw [q]; exact h1.lt
        · rw [q]; exact h2.lt
      rw [upd_ne (Nat.ne_of_lt hlt)]
      exact (hf c hcm).1
  done := by
    intro X hP hw hK hc i pins s σ H E I hf st hg
    subst hP hw hK
    obtain ⟨hz, hTI, ⟨x0, y0, hTO⟩, h1, h2⟩ := st
    obtain ⟨xs, ys, hqx, hqy, hend⟩ := hg
    obtain ⟨its, rv, p⟩ := sqX_at I hqx
    obtain ⟨its2, rv2, p2⟩ := sqX_at I hqy
    have n1 := rv.length
    have n2 := rv2.length
    have he : its.toArray[i]? = none ∨ its2.toArray[i]? = none := by
      rcases hend with q | q
      · exact .inl (by simp; omega)
      · exact .inr (by simp; omega)
    exact pyNext_zipX_end (I.ok.hd hc) D hz hTI hTO h1 h2 p p2 he fun h' hk => ⟨rfl, I.turnedL (t' := s.toks) (ch := [z, TI, TO, i1, i2]) (fun c o hb q =>
      hk c o (fun q' => hb (by simp [q'])) (fun q' => hb (by simp [q'])) (fun q' => hb (by simp [q'])) (fun q' => hb (by simp [q'])) q) hf⟩
  self := fun A i s Q E st h => wpAny_pyIter_zip st.1 h
/-- zip(e, e2): lists, tuples, a tuple and a list -/
def iZipX (K : Fg) (ta : TA) : TI := fun σ H R => ta σ H fun vs H1 => ∃ (a b : Addr) (b1 b2 : Bool) (xs ys : List V), vs = [.ref a, .ref b] ∧ (b1 = false → b2 = false) ∧ SqX K b1 H1 a xs ∧ SqX K b2 H1 b ys ∧ R (ItzX K b1 b2 a b) H1
theorem call_zipX {prog : Program} {w : World} {A : Around} {E : Value → Shared → Prop} {s : Shared} {b1 b2 : Bool} {l1 l2 : Addr} {xs ys : Array Value} {Q : Value → Shared → Prop} (hb : b1 = false → b2 = false) (hl1 : Sb b1 s.heap l1 xs) (hl2 : Sb b2 s.heap l2 ys)
    (h : ∀ h', IsZip h' (s.heap.objs.size + 4) (s.heap.objs.size + 2) (s.heap.objs.size + 3) .none → IsPair h' (s.heap.objs.size + 2) (.ref s.heap.objs.size) (.ref (s.heap.objs.size + 1)) →
      IsPair h' (s.heap.objs.size + 3) .none .none → Bi b1 h' s.heap.objs.size l1 0 → Bi b2 h' (s.heap.objs.size + 1) l2 0 →
      (∀ c o, s.heap.get? c = some o → h'.get? c = some o) → Q (.ref (s.heap.objs.size + 4)) { s with heap := h' }) :
    wpAny (model prog w) A (call (.type "zip") [.ref l1, .ref l2]) Q E s := by
  cases b1 <;> cases b2
  · exact call_zip_2 hl1 hl2 fun h' a1 a2 a3 a4 a5 _ a6 => h h' a1 a2 a3 a4 a5 a6
  · exact absurd (hb rfl) (by decide)
  · exact call_zipTL hl1 hl2 h
  · exact call_zipT hl1 hl2 fun h' a1 a2 a3 a4 a5 _ a6 => h h' a1 a2 a3 a4 a5 a6
theorem pi_zipX {X : Cx} {e e2 : Expr} {ta : TA} {p pos tpos : Pos} {elts : List Expr} {kk : Nat} (hg : Gl X "zip") (hm : X.mg "zip" = none) (ha : PA X [e, e2] ta)
    (hs : starEach [e, e2] X.env = (false, eval e X.env) :: starEach [e2] X.env := by rfl) (hpl : (backTo pos (starEach [e2] X.env)).any (·.1) = false := by rfl) :
    PI X (.Tuple elts kk tpos) (.Call (.Name "zip" p) [e, e2] [] pos) (iZipX X.K ta) := by
  refine ⟨fun pins s σ H R I h => ?_⟩
  refine Call_ (ld_blt I hg hm PyProof.Rows.boot_zip (PyProof.Rows.callWith_type1 (thn (ha.run pos pins s σ H _ I h) fun us s1 ⟨vs, H1, I1, r1, q1⟩ => ?_) hs hpl))
  obtain ⟨a, b, b1, b2, xs, ys, ex, hb, hqx, hqy, q⟩ := q1
  subst ex
  cases r1 with
  | cons r rr =>
    cases rr with
    | cons r' rr =>
      cases rr
      cases r
      cases r'
      obtain ⟨its, rv, p1⟩ := sqX_at I1 hqx
      obtain ⟨its2, rv2, p2⟩ := sqX_at I1 hqy
      refine call_zipX hb p1 p2 fun h' hz hTI hTO h1 h2 hk => wpAny_pyIter_zip hz ?_
      have I2 : Inv X pins σ H1 { s1 with heap := h' } := I1.kept (t' := s1.toks) hk
      refine ⟨s1.heap.objs.size + 4, [s1.heap.objs.size + 4, s1.heap.objs.size + 2, s1.heap.objs.size + 3, s1.heap.objs.size, s1.heap.objs.size + 1], _, _, H1, rfl, I2, turn_zipX (PySem.W.ktu_apart s1.heap.objs.size a b (sqX_lt p1) (sqX_lt p2)), ⟨hz, hTI, ⟨_, _, hTO⟩, h1, h2⟩, fun c hcm => ?_, q⟩
      have hle : s1.heap.objs.size ≤ c := by
        have e' : c = s1.heap.objs.size + 4 ∨ c = s1.heap.objs.size + 2 ∨ c = s1.heap.objs.size + 3 ∨ c = s1.heap.objs.size ∨ c = s1.heap.objs.size + 1 := by simpa using hcm
        rcases e' with q | q | q | q | q
        · rw [q]; exact Nat.le_add_right _ _
        · rw [q]; exact Nat.le_add_right _ _
        · rw [q]; exact Nat.le_add_right _ _
        · rw [q]; exact Nat.le_refl _
        · rw [q]; exact Nat.le_add_right _ _
      exact I1.fpOk hle (I1.hok.fresh hle)
/-! ### as values -/
def zipW (xs ys : List W) : List W := List.zipWith (fun a b => W.tup [a, b]) xs ys
def isTupW : W → Bool
  | .tup _ => true
  | _ => false
theorem seqX_cases {K : Fg} {r : List Addr} {H : Hp} {S : Sto} {v : V} {w : W} {Q : List W → (Sto → Prop) → Sto → Prop} (R : RelS K r H S) (p : Rep K r H v w) (h : vSeqI w S Q) :
    ∃ a, v = .ref a ∧ ∃ ws still, Q ws still S ∧ (∃ xs, SqX K (isTupW w) H a xs) ∧ ∀ r' H' S', Kp K r H r' H' → RelS K r' H' S' → still S' → ∃ xs, SqX K (isTupW w) H' a xs ∧ RepL K r' H' xs ws := by
  cases p with
  | @tup a xs ws q l => exact ⟨a, rfl, ws, _, h, ⟨xs, q⟩, fun r' H' S' e _ _ => ⟨xs, e.tup _ _ q, l.mono' e⟩⟩
  | @lit a xs ws q l => exact ⟨a, rfl, ws, _, h, ⟨_, q.1⟩, fun r' H' S' e _ _ => ⟨xs, (q.mono e).1, l.mono' e⟩⟩
  | @ref a i q =>
    obtain ⟨ws, hs, h⟩ := h
    obtain ⟨xs, h1, l⟩ := R.obj i a _ q hs
    refine ⟨a, rfl, ws, _, h, ⟨_, .of h1⟩, fun r' H' S' e R' st => ?_⟩
    obtain ⟨ys, h2, l2⟩ := R'.obj i a _ (e.pre _ _ q) st
    exact ⟨ys, .of h2, l2⟩
  | _ => exact h.elim
def iZip (da : DA) : DI := fun env S Q => da env S fun us S1 => match us with
  | [w1, w2] => (isTupW w1 = false → isTupW w2 = false) ∧ vSeqI w1 S1 fun xs st1 S2 => vSeqI w2 S2 fun ys st2 => Q (zipW xs ys) (fun S => st1 S ∧ st2 S)
  | _ => False
theorem zipW_get {xs ys : List W} {i : Nat} {x : W} (h : (zipW xs ys)[i]? = some x) : ∃ a b, xs[i]? = some a ∧ ys[i]? = some b ∧ x = .tup [a, b] := by
  unfold zipW at h
  rw [List.getElem?_zipWith] at h
  split at h
  · rename_i a b ha hb
    exact ⟨a, b, ha, hb, (Option.some.inj h).symm⟩
  · cases h
theorem zipX_ok {K : Fg} {r : List Addr} {H : Hp} {b1 b2 : Bool} {a1 a2 : Addr} {xs ys : List W} {st1 st2 : Sto → Prop} (f : ∀ r' H' S', Kp K r H r' H' → RelS K r' H' S' → st1 S' → ∃ us, SqX K b1 H' a1 us ∧ RepL K r' H' us xs)
    (g : ∀ r' H' S', Kp K r H r' H' → RelS K r' H' S' → st2 S' → ∃ us, SqX K b2 H' a2 us ∧ RepL K r' H' us ys) : ItOk K (ItzX K b1 b2 a1 a2) (zipW xs ys) (fun S => st1 S ∧ st2 S) r H := by
  refine ⟨fun r' H' S' i x e R st hx => ?_, fun r' H' S' i e R st hl => ?_⟩
  · obtain ⟨us, qu, lu⟩ := f r' H' S' e R st.1
    obtain ⟨vs, qv, lv⟩ := g r' H' S' e R st.2
    obtain ⟨a, b, ha, hb, rfl⟩ := zipW_get hx
    obtain ⟨u, hu, pu⟩ := lu.get ha
    obtain ⟨v, hv, pv⟩ := lv.get hb
    refine ⟨⟨us, vs, u, v, qu, qv, hu, hv⟩, fun v' H3 hy => ?_⟩
    obtain ⟨T, y, z, rfl, hT, rfl, g1, g2⟩ := hy
    have z1 := Option.some.inj ((g1 _ qu).symm.trans hu)
    have z2 := Option.some.inj ((g2 _ qv).symm.trans hv)
    subst z1 z2
    exact pair_ok R hT pu pv
  · obtain ⟨us, qu, lu⟩ := f r' H' S' e R st.1
    obtain ⟨vs, qv, lv⟩ := g r' H' S' e R st.2
    refine ⟨us, vs, qu, qv, ?_⟩
    rw [lu.length, lv.length]
    unfold zipW at hl
    rw [List.length_zipWith] at hl
    omega
theorem xi_zip {X : Cx} {e e2 : Expr} {da : DA} {p pos tpos : Pos} {elts : List Expr} {kk : Nat} (hg : Gl X "zip") (hm : X.mg "zip" = none) (ha : XA X [e, e2] da)
    (hs : starEach [e, e2] X.env = (false, eval e X.env) :: starEach [e2] X.env := by rfl) (hpl : (backTo pos (starEach [e2] X.env)).any (·.1) = false := by rfl) :
    XI X (.Tuple elts kk tpos) (.Call (.Name "zip" p) [e, e2] [] pos) (iZip da) := by
  obtain ⟨t, p, s⟩ := ha.ex
  refine ⟨_, pi_zipX hg hm p hs hpl, fun r H S st env Q Q0 R E g k => ?_⟩
  refine s r H S st env _ _ R E g fun r1 H1 S1 vs us e1 R1 q1 d1 => ?_
  cases q1 with
  | nil => exact d1.elim
  | cons a b =>
    cases b with
    | nil => exact d1.elim
    | cons b c =>
      cases c with
      | cons _ _ => exact d1.elim
      | nil =>
        obtain ⟨hb, d1⟩ := d1
        obtain ⟨a1, rfl, xs, st1, q1, ⟨us, hu⟩, f1⟩ := seqX_cases R1 a d1
        obtain ⟨a2, rfl, ys, st2, q2, ⟨vs, hv⟩, f2⟩ := seqX_cases R1 b q1
        exact ⟨a1, a2, _, _, us, vs, rfl, hb, hu, hv, k r1 H1 S1 _ _ _ e1 R1 (zipX_ok f1 f2) q2⟩
end DL

/-! DX: all of a list of ints; dict comprehensions over pairs. -/
namespace DL
open PySem PySem.Spec PyProof.Rows L2
theorem _root_.L2.Room.units80 {k : Nat} {A : Around} (r : Room k A) : A.units + 80 < cLine := by have := r.un; omega
theorem truth_ints {prog : Program} {w : World} {A : Around} {ns : List Int} {its : List Value} (e : IntsAre its ns) :
    TruthOf prog w A (fun i v => its.toArray[i]? = some v) (fun i => ns.getD i 0 != 0) := fun i v s Q E hv hq => by
  have hv' : its[i]? = some v := by simpa using hv
  have hi : i < ns.length := by
    have := e.length
    have h2 := (List.getElem?_eq_some_iff.mp hv').1
    omega
  obtain ⟨t, ht⟩ := e.get i ns[i] (List.getElem?_eq_getElem hi)
  rw [ht] at hv'
  obtain rfl := Option.some.inj hv'
  have hg : ns.getD i 0 = ns[i] := by rw [List.getD_eq_getElem?_getD, List.getElem?_eq_getElem hi] <;> rfl
  have hq' : Q (ns.getD i 0 != 0) s := hq
  rw [hg] at hq'
  exact P.truthy_int hq'
theorem allI_range : ∀ ns : List Int, (List.range ns.length).all (fun i => ns.getD i 0 != 0) = ns.all (· != 0)
  | [] => rfl
  | b :: bs => by
    rw [List.length_cons, List.range_succ_eq_map, List.all_cons, List.all_map, List.all_cons, ← allI_range bs]
    all_goals rfl
section
variable {X : Cx} {e : Expr} {es : List Expr} {dA : DA} {pos p : Pos}
def rAllI (K : Fg) : List V → Hp → VK → Prop := fun vs H Q => ∃ (a : Addr) (ns : List Int), vs = [V.ref a] ∧ SqL K H a (ns.map V.int) ∧ Q (.bl (ns.all (· != 0))) H
theorem cr_allI (hc : X.calm = true) : CallR X (.builtin "all") (rAllI X.K) := by
  intro pins s σ H vs us Q I r h
  obtain ⟨a, ns, rfl, hs, q⟩ := h
  obtain ⟨its, rv, hl, _⟩ := I.list hs
  rw [Vals.ref1 r]
  have hb := rv.ints
  refine call_all_walk (iter_any hl.isList fun s₂ e2 st hne => ?_)
  subst e2
  refine ⟨_, _, _, _, _, _, _, rfl, Walks.list (A := X.A.in1) (I.ok.hd hc) _ a hne its.toArray, st, truth_ints hb, fun h' tk hk => ?_⟩
  refine ⟨.bl _, H, I.kept fun b o eo => hk b o (fun hmem => ?_) (Heap.get?_push_of_some _ eo), ?_, q⟩
  · rcases List.mem_cons.mp hmem with e1 | hmem
    · exact absurd (e1 ▸ Heap.lt_size eo) (Nat.lt_irrefl _)
    · cases hmem
  · show Value.bool _ = Value.bool _
    rw [← allI_range, List.size_toArray, hb.length]
def vAllI (xs : List W) (S : Sto) (Q : WK) : Prop := match xs with
  | [.ref i] => ∃ bs : List Int, S[i]? = some (.lst (bs.map W.int)) ∧ Q (.bl (bs.all (· != 0))) S
  | _ => False
theorem allI_sim {K : Fg} : SimC K (rAllI K) vAllI := by
  intro r H S xs ws Q Q0 R l d k
  cases l with
  | nil => exact d.elim
  | cons p l =>
    cases l with
    | cons p' l' => cases p <;> exact d.elim
    | nil =>
      cases p <;> try exact d.elim
      rename_i a i h
      obtain ⟨bs, h0, q⟩ := d
      obtain ⟨xs, h3, l⟩ := R.obj i _ _ h h0
      have e := repL_ints l
      subst e
      exact ⟨a, bs, rfl, .of h3, k r H S _ _ .refl R (.bl _) q⟩
theorem c_allI (hc : X.calm = true) (hg : Gl X "all") (hm : X.mg "all" = none) (ha : XA X (e :: es) dA) (he : starEach (e :: es) X.env = (false, eval e X.env) :: starEach es X.env := by rfl) (hpl : (backTo pos (starEach es X.env)).any (·.1) = false := by rfl) : XE X (.Call (.Name "all" p) (e :: es) [] pos) (dCB vAllI dA) :=
  xe_callB (cr_allI hc) allI_sim hg hm (by decide +kernel) ha (by decide) (by decide) he hpl
theorem xe_dictCT {kx vx iter : Expr} {es : List Expr} {kt n : Nat} {tpos : Pos} {ifs : List Expr} {scope : Scope} {di : DI} {ts : TGs} {gs : DGs} {dt : DT} {dk dv : DE} (own : List (Str × Nat)) (hc : X.calm = true) (hN : X.N.Nodup) (hi : XI X (.Tuple es kt tpos) iter di) (ok : BlkOk X.N X.env.scope scope own)
    (hg : ∀ (s : Shared) (H : Hp) (C : Addr) (cl : List (Str × Addr)) (fp : List Addr), XCGs (X.blk s H scope (compEnvC scope cl C X.env) fp) (own.map (·.2)) es ts gs)
    (ht : ∀ (s : Shared) (H : Hp) (C : Addr) (cl : List (Str × Addr)) (fp : List Addr), XTs (X.blk s H scope (compEnvC scope cl C X.env) fp) ifs dt)
    (hk : ∀ (s : Shared) (H : Hp) (C : Addr) (cl : List (Str × Addr)) (fp : List Addr), XE (X.blk s H scope (compEnvC scope cl C X.env) fp) kx dk)
    (he : ∀ (s : Shared) (H : Hp) (C : Addr) (cl : List (Str × Addr)) (fp : List Addr), XE (X.blk s H scope (compEnvC scope cl C X.env) fp) vx dv)
    (hn : ∀ env, (assignEach es env).length = n := by intro _; rfl) (hst : ∀ env, (assignEach es env).findIdx? (·.1) = none := by intro _; rfl)
    (hs : ∀ x, foldedSetIterable iter X.env x = pure x := by intro _; rfl) : XE X (.DictComp kx vx [⟨.Tuple es kt tpos, iter, ifs, 0⟩] scope pos) (dDictC di (gTp n gs) dt dk dv (own.map (·.2))) :=
  xe_dictC (t := gTup X.K n ts) own hc hN hi ok (fun s H C cl fp => xcg_tup (X := X.blk s H scope (compEnvC scope cl C X.env) fp) hc (hg s H C cl fp) (hn _) (hst _)) ht hk he hs
end
end DL

/-! DY: tuples known to their last field: made, walked, turned into a dict. -/
namespace DL
open PySem PySem.Spec PyProof.Rows L2
section
variable {X : Cx} {e : Expr} {es : List Expr} {dA : DA} {pos p : Pos}
/-! ### tuple(l) -/
def rTupF (K : Fg) : List V → Hp → VK → Prop := fun xs H Q => ∃ p ys, xs = [.ref p] ∧ SqL K H p ys ∧ ∀ (l : Addr) (o : Obj), H l = none → o.dict = none → Q (.ref l) (upd H l (.frz o (.tup ys)))
theorem cr_tupF : CallR X (.type "tuple") (rTupF X.K) := by
  intro pins s σ H xs us Q I r h
  obtain ⟨p, ys, rfl, hq, q⟩ := h
  obtain ⟨u, rfl, rx⟩ := vals1 r
  cases rx
  obtain ⟨its, r', pl, hz⟩ := I.list hq
  have hlen := r'.length
  refine call_tuple_list pl.isList (fun h' kp => ?_) (by simp only [List.size_toArray] <;> omega)
  have I1 : Inv X pins σ H { s with heap := h' } := I.kept (t' := s.toks) kp
  have I2 : Inv X pins σ (upd H h'.objs.size (.frz { cls := .type "tuple", data := .seq its.toArray } (.tup ys))) { s with heap := h'.push { cls := .type "tuple", data := .seq its.toArray } } :=
    I1.laid (t' := s.toks) (fun b o e => Heap.get?_push_of_some _ e) (Nat.le_refl _) (show ObjOk X.prog X.w _ _ _ (.frz _ (.tup ys)) from ⟨Heap.get?_push_size _ rfl, hz, its, r', IsTup.new _ _⟩)
  exact ⟨.ref h'.objs.size, _, I2, rfl, q _ _ (I1.hok.fresh (Nat.le_refl _)) rfl⟩
def vTupF (xs : List W) (S : Sto) (Q : WK) : Prop := match xs with
  | [.ref i] => ∃ ws, S[i]? = some (.lst ws) ∧ Q (.ref S.length) (S ++ [.ft ws])
  | _ => False
theorem new_ft {K : Fg} {r : List Addr} {H : Hp} {S : Sto} (R : RelS K r H S) {p : Addr} {o : Obj} {xs : List V} {ws : List W} (h : H p = none) (ho : o.dict = none) (l : RepL K r H xs ws) : RelS K (r ++ [p]) (upd H p (.frz o (.tup xs))) (S ++ [.ft ws]) :=
  rel_mem (o := .ft ws) R h ⟨o, xs, upd_same, ho, l.mono (ext_mem h)⟩
theorem tupF_sim {K : Fg} : SimC K (rTupF K) vTupF := by
  intro r H S xs ws Q Q0 R l d k
  cases l with
  | nil => exact d.elim
  | cons p l =>
    cases l with
    | cons p' l' => cases p <;> exact d.elim
    | nil =>
      cases p <;> try exact d.elim
      rename_i a i h
      obtain ⟨us, h0, q⟩ := d
      obtain ⟨vs, h3, lv⟩ := R.obj i _ _ h h0
      exact ⟨a, vs, rfl, .of h3, fun p o hp ho => k _ _ _ _ _ (ext_mem hp) (new_ft R hp ho lv) (rep_mem R) q⟩
theorem c_tupF (hg : Gl X "tuple") (hm : X.mg "tuple" = none) (ha : XA X (e :: es) dA) (he : starEach (e :: es) X.env = (false, eval e X.env) :: starEach es X.env := by rfl) (hpl : (backTo pos (starEach es X.env)).any (·.1) = false := by rfl) : XE X (.Call (.Name "tuple" p) (e :: es) [] pos) (dCB vTupF dA) :=
  xe_callTy cr_tupF tupF_sim hg hm (by decide +kernel) ha (by decide) (by decide) he hpl
/-! ### for .. in it -/
def vSeqF (w : W) (S : Sto) (Q : List W → (Sto → Prop) → Sto → Prop) : Prop := vSeqI w S Q ∨ ∃ i ws, w = .ref i ∧ S[i]? = some (.ft ws) ∧ Q ws (fun _ => True) S
def iSeqF (d : DE) : DI := fun env S Q => d env S fun w S1 => vSeqF w S1 Q
theorem seqF_at {K : Fg} {r : List Addr} {H : Hp} {S : Sto} {v : V} {w : W} {Q : List W → (Sto → Prop) → Sto → Prop} (R : RelS K r H S) (p : Rep K r H v w) (h : vSeqF w S Q) :
    ∃ a, v = .ref a ∧ ∃ its still, Q its still S ∧ (((∃ xs, SqL K H a xs) ∧ ItOk K (Itl K a) its still r H) ∨ ((∃ xs, SqT K H a xs) ∧ ItOk K (Itt K a) its still r H)) := by
  rcases h with h | ⟨i, ws, rfl, hs, q⟩
  · exact seqAt_ok R p h
  · cases p with
    | @ref a i hp =>
      obtain ⟨o, xs, h1, ho, l⟩ := R.obj i a _ hp hs
      have hq : SqT K H a xs := .inl (.inr ⟨o, h1⟩)
      refine ⟨a, rfl, ws, _, q, .inr ⟨⟨_, hq⟩, ⟨fun r' H' S' i x e' R' _ hx => ?_, fun r' H' S' i e' R' _ hl => ⟨_, e'.tup _ _ hq, by rw [l.length]; exact hl⟩⟩⟩⟩
      obtain ⟨u, hu, pu⟩ := l.get hx
      refine ⟨⟨_, _, e'.tup _ _ hq, hu⟩, fun v H3 hy => ?_⟩
      obtain ⟨rfl, f⟩ := hy
      have := Option.some.inj ((f _ (e'.tup _ _ hq)).symm.trans hu)
      subst this
      exact ⟨.refl, R', pu.mono' e'⟩
theorem xi_seqF {tg l : Expr} {d : DE} (h : XE X l d) : XI X tg l (iSeqF d) := by
  obtain ⟨t, p, s⟩ := h.ex
  refine ⟨_, pi_seq p, fun r H S st env Q Q0 R E g k => ?_⟩
  refine s r H S st env _ _ R E g fun r1 H1 S1 v w e1 R1 q1 d1 => ?_
  obtain ⟨a, rfl, its, still, q, h⟩ := seqF_at R1 q1 d1
  refine ⟨a, rfl, ?_⟩
  rcases h with ⟨hx, ok⟩ | ⟨hx, ok⟩
  · exact .inl ⟨hx, k r1 H1 S1 _ its still e1 R1 ok q⟩
  · exact .inr ⟨hx, k r1 H1 S1 _ its still e1 R1 ok q⟩
/-! ### dict(t) -/
theorem pairs_pv {pins : List (Addr × Obj)} {σ : L2.St} {H : Hp} {s : Shared} (I : Inv X pins σ H s) : ∀ {ps : List Addr} {kvs : List (Key × V)}, Paired (fun p kv => SqT X.K H p [kV kv.1, kv.2]) ps kvs →
    ∃ (pv : List (Value × Value)) (prs : List (Key × Value)), KV kvs prs ∧ pv.length = ps.length ∧ prs.length = ps.length ∧ ∀ (j : Nat) (k v : Value), pv[j]? = some (k, v) → ∃ (b : Addr) (key : Key), ps[j]? = some b ∧ IsTup s.heap b #[k, v] ∧ prs[j]? = some (key, v) ∧ keyIs key k = true
  | _, _, .nil => ⟨[], [], .nil, rfl, rfl, fun j k v e => by simp at e⟩
  | _, _, .cons (a := p) (b := kv) h t => by
    obtain ⟨pv, prs, r, hl, hl2, hp⟩ := pairs_pv I t
    obtain ⟨its, rv, ht, _⟩ := I.tuple h
    obtain ⟨u, y, ei, ru, ry⟩ := vals2 rv
    subst ei
    refine ⟨(u, y) :: pv, (kv.1, y) :: prs, .cons ⟨rfl, ry⟩ r, by rw [List.length_cons, List.length_cons, hl], by rw [List.length_cons, List.length_cons, hl2], fun j k v e => ?_⟩
    cases j with
    | zero =>
      have e' : (u, y) = (k, v) := Option.some.inj e
      cases e'
      exact ⟨p, kv.1, rfl, ht, rfl, kV_is (P := X.prog) (w := X.w) ru⟩
    | succ j =>
      obtain ⟨b, key, e1, e2, e3, e4⟩ := hp j k v (by simpa using e)
      exact ⟨b, key, by simpa using e1, e2, by simpa using e3, e4⟩
def rDictF (K : Fg) : List V → Hp → VK → Prop := fun xs H Q => ∃ (a : Addr) (o : Obj) (ps : List Addr) (kvs : List (Key × V)), xs = [.ref a] ∧ H a = some (.frz o (.tup (ps.map V.ref))) ∧ o.dict = none ∧ Paired (fun p kv => SqT K H p [kV kv.1, kv.2]) ps kvs ∧
  ∀ p, H p = none → Q (.ref p) (upd H p (.dK (mergeK [] kvs)))
theorem cr_dictF (hcalm : X.calm = true) : CallR X (.type "dict") (rDictF X.K) := by
  intro pins s σ H xs us Q I r q
  obtain ⟨a, o, ps, kvs, ex, hq, hd, hp, q⟩ := q
  subst ex
  obtain ⟨u, eu, rx⟩ := vals1 r
  subst eu
  cases rx
  obtain ⟨ho, hz, its, rv, o', ho', hc, n, hdat⟩ := (show ObjOk X.prog X.w H s.heap a (.frz o (.tup (ps.map V.ref))) from I.hok a _ hq)
  obtain rfl : o = o' := Option.some.inj (ho.symm.trans ho')
  have ei := refs_at rv
  subst ei
  rw [List.length_map] at hz
  obtain ⟨pv, prs, rel, hl, hl2, hpr⟩ := pairs_pv I hp
  have items : PairItems s.heap (ps.map Value.ref).toArray (fun j => ps.getD j 0) pv := by
    refine ⟨by simp [hl], fun j k v e => ?_⟩
    obtain ⟨b, key, e1, e2, e3, e4⟩ := hpr j k v e
    have eb : ps.getD j 0 = b := by rw [List.getD_eq_getElem?_getD, e1]; rfl
    refine ⟨by simp [e1, eb], ?_⟩
    dsimp only
    rw [eb]
    exact .inl e2
  refine PySem.call_dict_pairs (knd := mixKind X.prog X.w) (kvs := prs) (PairArg.tuple a (ps.map Value.ref).toArray (fun j => ps.getD j 0) pv) (I.ok.hd hcalm) ⟨⟨o, n, ho, hc, hd, hdat⟩, items⟩ ⟨by omega, fun i key v e => ?_⟩ (by omega) fun h' tk hd' k => ?_
  · obtain ⟨b, ke, e1, e2, e3, e4⟩ := hpr i key v e
    exact ⟨ke, e3, e4⟩
  · have hm : (s.heap.objs.size == sysModules) = false := beq_eq_false_iff_ne.mpr (Nat.ne_of_gt I.big)
    have hlen : (mergeK [] kvs).length ≤ sizeLine := by
      refine Nat.le_trans (length_mergeK kvs []) ?_
      rw [List.length_nil, Nat.zero_add, rel.length, hl2]
      exact hz
    exact ⟨.ref s.heap.objs.size, upd H s.heap.objs.size (.dK (mergeK [] kvs)), I.laid (t' := tk) (fun b o e => k b o (by simp) e) (Nat.le_refl _) (show ObjOk X.prog X.w _ _ _ (.dK (mergeK [] kvs)) from ⟨hlen, hm, merged [] prs, KV.merge rel .nil, hd'⟩), rfl, q _ (I.hok.fresh (Nat.le_refl _))⟩
def vDictF (xs : List W) (S : Sto) (Q : WK) : Prop := match xs with
  | [.ref i] => ∃ kws, S[i]? = some (.ft (kws.map pairW)) ∧ Q (.ref S.length) (S ++ [.dk (mergeW [] kws)])
  | _ => False
theorem dictF_sim {K : Fg} : SimC K (rDictF K) vDictF := by
  intro r H S xs ws Q Q0 R l d k
  cases l with
  | nil => exact d.elim
  | cons p l =>
    cases l with
    | cons p' l' => cases p <;> exact d.elim
    | nil =>
      cases p <;> try exact d.elim
      rename_i a i h
      obtain ⟨kws, h0, q⟩ := d
      obtain ⟨o, xs, h3, ho, l⟩ := R.obj i _ _ h h0
      obtain ⟨ps, kvs, rfl, h1, h2⟩ := pairs_rep l
      exact ⟨a, o, ps, kvs, rfl, h3, ho, h1, fun p hp => k _ _ _ _ _ (ext_mem hp) (new_dk R hp (merge_sim h2 kv_nil)) (rep_mem R) q⟩
theorem c_dictF (hc : X.calm = true) (hg : Gl X "dict") (hm : X.mg "dict" = none) (ha : XA X (e :: es) dA) (he : starEach (e :: es) X.env = (false, eval e X.env) :: starEach es X.env := by rfl) (hpl : (backTo pos (starEach es X.env)).any (·.1) = false := by rfl) : XE X (.Call (.Name "dict" p) (e :: es) [] pos) (dCB vDictF dA) :=
  xe_callTy (cr_dictF hc) dictF_sim hg hm (by decide +kernel) ha (by decide) (by decide) he hpl
end
end DL

/-! k66: each def's slots, what it denotes, its derivation (printed by gen.py). -/
namespace K66
open PySem PySem.Spec PyProof.Rows L2 DL
def topS (i : Nat) : Stmt := PySem.Challenge.pw_throughdoors_k66_hitting_sets.main.body.getD i (.Pass ⟨0, 0, 0, 0⟩)
structure Txt (mg : Str → Option Value) : Prop where
  z_sorted : mg "sorted" = none
  z_enumerate : mg "enumerate" = none
  z_sum : mg "sum" = none
  z_range : mg "range" = none
  z_len : mg "len" = none
  z_all : mg "all" = none
  z_any : mg "any" = none
  z_tuple : mg "tuple" = none
  z_abs : mg "abs" = none
  z_int : mg "int" = none
  z_str : mg "str" = none
  z_list : mg "list" = none
  z_dict : mg "dict" = none
  z_set : mg "set" = none
  z_isinstance : mg "isinstance" = none
  z_zip : mg "zip" = none
  z_bool : mg "bool" = none
/-! ### hitting_sets -/
abbrev s_hitting_sets : Stmt := topS 1
abbrev N_hitting_sets : List Str := ["family", "names", "places", "wanted", "least", "chosen", "member", "name", "at", "bits", "lower"]
theorem sc_hitting_sets : FnScope N_hitting_sets ["family"] (defScope s_hitting_sets) := ⟨rfl, rfl, rfl, by decide +kernel, rfl, by decide +kernel, by decide +kernel⟩
def d_hitting_sets : DS :=
(dSeq (dAsg (dSortSC2 (iSeq (dVar 0)) (gNm 6) dYes (iSeq (dVar 6)) (gNm 7) dYes (dVar 7) [6, 7] [7]) (gNm 1))
(dSeq (dAsg (dDictC (iEnumerate (aCons (dVar 1) aNil)) (gTp 2 (gC (gNm 8) (gC (gNm 7) gN0))) dYes (dVar 7) (dVar 8) [8, 7]) (gNm 2))
(dSeq (dAsg (dComp (iSeq (dVar 0)) (gNm 6) dYes (dCB vSum (aCons (dComp (iSeq (dVar 6)) (gNm 7) dYes (dOp vShl (dC (.int 1)) (dOp vIxA (dVar 2) (dVar 7))) [7]) aNil)) [6]) (gNm 3))
(dSeq (dAsg (dLst aNil) (gNm 4))
(dSeq (dFor (iRng1 (aCons (dOp vShl (dC (.int 1)) (dCB vLenA (aCons (dVar 1) aNil))) aNil)) (gNm 5)
(dSeq (dIfS (dNotT (dTru (dCB vAllI (aCons (dComp (iSeq (dVar 3)) (gNm 9) dYes (dOp vBand (dVar 5) (dVar 9)) [9]) aNil))))
dCont
dNext)
(dIfS (dNotT (dTru (dCB (vAny fun bs => bs.any id) (aCons (dComp (iSeq (dVar 4)) (gNm 10) dYes (dOp vEq (dOp vBand (dVar 10) (dVar 5)) (dVar 10)) [10]) aNil))))
(dDrop (dBM "list" vAppend (dVar 4) (aCons (dVar 5) aNil)))
dNext)))
(dRet (dCB vTuple (aCons (dCB vSortE (aCons (dComp (iSeq (dVar 4)) (gNm 5) dYes (dCB vTuple (aCons (dComp (iSeq (dVar 1)) (gNm 7) (dTru (dOp vBand (dOp vShr (dVar 5) (dOp vIxA (dVar 2) (dVar 7))) (dC (.int 1)))) (dVar 7) [7]) aNil)) [5]) aNil)) aNil))))))))
/-! ### cheapest_hitting -/
abbrev s_cheapest_hitting : Stmt := topS 2
abbrev N_cheapest_hitting : List Str := ["family", "prices", "price_by", "best", "names", "price", "name"]
theorem sc_cheapest_hitting : FnScope N_cheapest_hitting ["family", "prices"] (defScope s_cheapest_hitting) := ⟨rfl, rfl, rfl, by decide +kernel, rfl, by decide +kernel, by decide +kernel⟩
def d_cheapest_hitting (F_hitting_sets : DSpec) : DS :=
(dSeq (dAsg (dDictC (iSeqF (dVar 1)) (gTp 2 (gC (gNm 6) (gC (gNm 5) gN0))) dYes (dVar 6) (dVar 5) [6, 5]) (gNm 2))
(dSeq (dAsg (dC .non) (gNm 3))
(dSeq (dFor (iSeq (dCall F_hitting_sets (aCons (dVar 0) aNil))) (gNm 4)
(dSeq (dAsg (dCB vSum (aCons (dComp (iSeq (dVar 4)) (gNm 6) dYes (dOp vIxA (dVar 2) (dVar 6)) [6]) aNil)) (gNm 5))
(dIfS (dOrT (dB (dOp (vIs false) (dVar 3) (dC .non))) (dB (dOp vLt (dVar 5) (dOp vIxA (dVar 3) (dC (.int 0))))))
(dAsg (dTup (aCons (dVar 5) (aCons (dVar 4) aNil))) (gNm 3))
dNext)))
(dRet (dVar 3)))))
/-! ### _law_pool -/
abbrev s_law_pool : Stmt := topS 4
abbrev N_law_pool : List Str := ["script", "many", "left", "state", "cell", "row", "place", "pick"]
theorem sc_law_pool : FnScope N_law_pool ["script", "many"] (defScope s_law_pool) := ⟨rfl, rfl, rfl, by decide +kernel, rfl, by decide +kernel, by decide +kernel⟩
def d_law_pool : DS :=
(dSeq (dAsg (dComp (iSeq (dSl vSl (dVar 0) oNone (oSome (dC (.int 63))))) (gNm 4) dYes (dCB (vI1 fun i => .int (if i < 0 then -i else i)) (aCons (dCB vIntOf (aCons (dVar 4) aNil)) aNil)) [4]) (gNm 2))
(dSeq (dAsg (dC (.int 38807)) (gNm 3))
(dSeq (dFor (iSeq (dVar 2)) (gNm 4)
(dAsg (dOp vMod (dCB vIntOf (aCons (dOp vAdd (dOp vAdd (dOp vMul (dVar 3) (dC (.int 8887))) (dOp vMul (dVar 4) (dC (.int 29)))) (dC (.int 11))) aNil)) (dC (.int 998244353))) (gNm 3)))
(dSeq (dAsg (dLst aNil) (gNm 5))
(dSeq (dFor (iRng1 (aCons (dVar 1) aNil)) (gNm 6)
(dSeq (dAsg (dOp vMod (dCB vIntOf (aCons (dOp vAdd (dOp vAdd (dOp vMul (dVar 3) (dC (.int 48017))) (dOp vMul (dVar 6) (dC (.int 2903)))) (dC (.int 5))) aNil)) (dC (.int 2147483647))) (gNm 3))
(dSeq (dAsg (dOp vMod (dCB vIntOf (aCons (dOp vAdd (dOp vDiv (dVar 3) (dC (.int 7))) (dOp vDiv (dOp vMul (dVar 3) (dVar 3)) (dC (.int 1048576)))) aNil)) (dC (.int 1000003))) (gNm 7))
(dSeq (dIfS (dTru (dVar 2))
(dSeq (dAsg (dOp vIxA (dVar 2) (dOp vMod (dVar 6) (dCB vLenA (aCons (dVar 2) aNil)))) (gNm 4))
(dIfS (dB (dOp vGe (dVar 4) (dOp vPow (dC (.int 10)) (dC (.int 18)))))
(dSeq (dAsg (dOp vMod (dCB vIntOf (aCons (dVar 4) aNil)) (dC (.int 1039))) (gNm 7))
(dAsg (dOp vDiv (dVar 4) (dC (.int 1039))) (gSb (dVar 2) (dOp vMod (dVar 6) (dCB vLenA (aCons (dVar 2) aNil))) vSetA)))
dNext))
dNext)
(dDrop (dBM "list" vAppend (dVar 5) (aCons (dVar 7) aNil)))))))
(dRet (dVar 5)))))))
/-! ### _law_pick -/
abbrev s_law_pick : Stmt := topS 5
abbrev N_law_pick : List Str := ["pool", "many"]
theorem sc_law_pick : FnScope N_law_pick ["pool", "many"] (defScope s_law_pick) := ⟨rfl, rfl, rfl, by decide +kernel, rfl, by decide +kernel, by decide +kernel⟩
def d_law_pick : DS :=
(dSeq (dIfS (dOrT (dNotT (dTru (dVar 0))) (dB (dOp vLt (dVar 1) (dC (.int 1)))))
(dRet (dC (.int 0)))
dNext)
(dRet (dOp vMod (dCB vIntOf (aCons (dBM "list" vPop1 (dVar 0) (aCons (dC (.int 0)) aNil)) aNil)) (dVar 1))))
/-! ### _law_value -/
abbrev s_law_value : Stmt := topS 6
abbrev N_law_value : List Str := ["pool", "way", "number"]
theorem sc_law_value : FnScope N_law_value ["pool"] (defScope s_law_value) := ⟨rfl, rfl, rfl, by decide +kernel, rfl, by decide +kernel, by decide +kernel⟩
def d_law_value (F_law_pick : DSpec) : DS :=
(dSeq (dAsg (dCall F_law_pick (aCons (dVar 0) (aCons (dC (.int 5)) aNil))) (gNm 1))
(dSeq (dAsg (dCall F_law_pick (aCons (dVar 0) (aCons (dC (.int 1000003)) aNil))) (gNm 2))
(dSeq (dIfS (dB (dOp vLt (dVar 1) (dC (.int 2))))
(dRet (dOp vMod (dCB vIntOf (aCons (dVar 2) aNil)) (dC (.int 7))))
dNext)
(dSeq (dIfS (dB (dOp vEq (dVar 1) (dC (.int 2))))
(dRet (dOp vSub (dOp vPow (dC (.int 10)) (dC (.int 12))) (dOp vMod (dCB vIntOf (aCons (dVar 2) aNil)) (dC (.int 5)))))
dNext)
(dRet (dOp vMod (dCB vIntOf (aCons (dOp vMul (dVar 2) (dVar 2)) aNil)) (dOp vAdd (dOp vPow (dC (.int 10)) (dC (.int 12))) (dC (.int 1)))))))))
/-! ### _law_names -/
abbrev s_law_names : Stmt := topS 7
abbrev N_law_names : List Str := ["pool", "many", "letter", "letters", "tails", "place"]
theorem sc_law_names : FnScope N_law_names ["pool", "many"] (defScope s_law_names) := ⟨rfl, rfl, rfl, by decide +kernel, rfl, by decide +kernel, by decide +kernel⟩
def d_law_names (F_law_pick : DSpec) : DS :=
(dSeq (dAsg (dOp vIxA (dC (.str (Str.ofString "nuxm"))) (dCall F_law_pick (aCons (dVar 0) (aCons (dC (.int 4)) aNil)))) (gNm 2))
(dSeq (dIfS (dB (dOp vEq (dCall F_law_pick (aCons (dVar 0) (aCons (dC (.int 4)) aNil))) (dC (.int 0))))
(dRet (dComp (iRng1 (aCons (dVar 1) aNil)) (gNm 5) dYes (dOp vAdd (dVar 2) (dCB vStrOf (aCons (dVar 5) aNil))) [5]))
dNext)
(dSeq (dAsg (dC (.str (Str.ofString "qbzfhkmvwxyjuagtdrsn"))) (gNm 3))
(dSeq (dAsg (dLst (aCons (dC (.str (Str.ofString ""))) (aCons (dC (.str (Str.ofString ""))) (aCons (dC (.str (Str.ofString "e"))) (aCons (dC (.str (Str.ofString "k0"))) (aCons (dC (.str (Str.ofString "ord"))) (aCons (dC (.str (Str.ofString "x"))) (aCons (dC (.str (Str.ofString "zz"))) (aCons (dC (.str (Str.ofString "long"))) aNil))))))))) (gNm 4))
(dRet (dComp (iRng1 (aCons (dVar 1) aNil)) (gNm 5) dYes (dOp vAdd (dOp vAdd (dOp vIxA (dVar 3) (dCall F_law_pick (aCons (dVar 0) (aCons (dC (.int 20)) aNil)))) (dIf (dTru (dVar 5)) (dCB vStrOf (aCons (dVar 5) aNil)) (dC (.str (Str.ofString ""))))) (dOp vIxA (dVar 4) (dCall F_law_pick (aCons (dVar 0) (aCons (dC (.int 8)) aNil))))) [5]))))))
/-! ### _law_mixed -/
abbrev s_law_mixed : Stmt := topS 8
abbrev N_law_mixed : List Str := ["pool", "things", "rest", "found", "lap"]
theorem sc_law_mixed : FnScope N_law_mixed ["pool", "things"] (defScope s_law_mixed) := ⟨rfl, rfl, rfl, by decide +kernel, rfl, by decide +kernel, by decide +kernel⟩
def d_law_mixed (F_law_pick : DSpec) : DS :=
(dSeq (dAsg (dCB vListA (aCons (dVar 1) aNil)) (gNm 2))
(dSeq (dAsg (dLst aNil) (gNm 3))
(dSeq (dFor (iRng1 (aCons (dCB vLenA (aCons (dVar 1) aNil)) aNil)) (gNm 4)
(dDrop (dBM "list" vAppend (dVar 3) (aCons (dBM "list" vPop1 (dVar 2) (aCons (dCall F_law_pick (aCons (dVar 0) (aCons (dCB vLenA (aCons (dVar 2) aNil)) aNil))) aNil)) aNil))))
(dRet (dVar 3)))))
/-! ### _law_hits_all -/
abbrev s_law_hits_all : Stmt := topS 9
abbrev N_law_hits_all : List Str := ["chosen", "family", "names", "name"]
theorem sc_law_hits_all : FnScope N_law_hits_all ["chosen", "family"] (defScope s_law_hits_all) := ⟨rfl, rfl, rfl, by decide +kernel, rfl, by decide +kernel, by decide +kernel⟩
def d_law_hits_all : DS :=
(dSeq (dFor (iSeq (dVar 1)) (gNm 2)
(dIfS (dNotT (dTru (dCB (vAny fun bs => bs.any id) (aCons (dComp (iSeq (dVar 0)) (gNm 3) dYes (dOp (vInA false) (dVar 3) (dVar 2)) [3]) aNil))))
(dRet (dC (.bl false)))
dNext))
(dRet (dC (.bl true))))
/-! ### _law_least_sets -/
abbrev s_law_least_sets : Stmt := topS 10
abbrev N_law_least_sets : List Str := ["family", "names", "one", "sets", "name", "found", "chosen", "less"]
theorem sc_law_least_sets : FnScope N_law_least_sets ["family"] (defScope s_law_least_sets) := ⟨rfl, rfl, rfl, by decide +kernel, rfl, by decide +kernel, by decide +kernel⟩
def d_law_least_sets (F_law_hits_all : DSpec) : DS :=
(dSeq (dAsg (dLst aNil) (gNm 1))
(dSeq (dFor (iSeq (dVar 0)) (gNm 2)
(dDrop (dBM "list" vExtend (dVar 1) (aCons (dComp (iSeq (dVar 2)) (gNm 4) (dB (dOp (vInA true) (dVar 4) (dVar 1))) (dVar 4) [4]) aNil))))
(dSeq (dAsg (dCB vSortE (aCons (dVar 1) aNil)) (gNm 1))
(dSeq (dAsg (dLst (aCons (dTup aNil) aNil)) (gNm 3))
(dSeq (dFor (iSeq (dVar 1)) (gNm 4)
(dAsg (dOp vAdd (dVar 3) (dComp (iSeq (dVar 3)) (gNm 6) dYes (dOp vAdd (dVar 6) (dTup (aCons (dVar 4) aNil))) [6])) (gNm 3)))
(dSeq (dAsg (dLst aNil) (gNm 5))
(dSeq (dFor (iSeq (dUn vSortLen (dVar 3))) (gNm 6)
(dIfS (dAndT (dNotT (dTru (dCB (vAny fun bs => bs.any id) (aCons (dComp (iSeq (dVar 5)) (gNm 7) dYes (dCB (vAny fun bs => bs.all id) (aCons (dComp (iSeq (dVar 7)) (gNm 4) dYes (dOp (vInA false) (dVar 4) (dVar 6)) [4]) aNil)) [7]) aNil)))) (dTru (dCall F_law_hits_all (aCons (dVar 6) (aCons (dVar 0) aNil)))))
(dDrop (dBM "list" vAppend (dVar 5) (aCons (dVar 6) aNil)))
dNext))
(dRet (dCB vSortE (aCons (dVar 5) aNil))))))))))
/-! ### _law_cheapest -/
abbrev s_law_cheapest : Stmt := topS 11
abbrev N_law_cheapest : List Str := ["sets", "prices", "costs", "best", "chosen", "cost", "name"]
theorem sc_law_cheapest : FnScope N_law_cheapest ["sets", "prices"] (defScope s_law_cheapest) := ⟨rfl, rfl, rfl, by decide +kernel, rfl, by decide +kernel, by decide +kernel⟩
def d_law_cheapest : DS :=
(dSeq (dAsg (dCB vDictF (aCons (dVar 1) aNil)) (gNm 2))
(dSeq (dAsg (dC .non) (gNm 3))
(dSeq (dFor (iSeq (dVar 0)) (gNm 4)
(dSeq (dAsg (dCB vSum (aCons (dComp (iSeq (dVar 4)) (gNm 6) dYes (dOp vIxA (dVar 2) (dVar 6)) [6]) aNil)) (gNm 5))
(dIfS (dOrT (dB (dOp (vIs false) (dVar 3) (dC .non))) (dB (dOp vLt (dVar 5) (dOp vIxA (dVar 3) (dC (.int 0))))))
(dAsg (dTup (aCons (dVar 5) (aCons (dVar 4) aNil))) (gNm 3))
dNext)))
(dRet (dVar 3)))))
/-! ### _law_free -/
abbrev s_law_free : Stmt := topS 12
abbrev N_law_free : List Str := ["pool", "names", "many", "family", "lap", "size"]
theorem sc_law_free : FnScope N_law_free ["pool", "names", "many"] (defScope s_law_free) := ⟨rfl, rfl, rfl, by decide +kernel, rfl, by decide +kernel, by decide +kernel⟩
def d_law_free (F_law_pick : DSpec) (F_law_mixed : DSpec) : DS :=
(dSeq (dAsg (dLst aNil) (gNm 3))
(dSeq (dFor (iRng1 (aCons (dVar 2) aNil)) (gNm 4)
(dSeq (dAsg (dOp vIxA (dLst (aCons (dC (.int 1)) (aCons (dC (.int 2)) (aCons (dC (.int 2)) (aCons (dC (.int 3)) (aCons (dCB vLenA (aCons (dVar 1) aNil)) (aCons (dOp vAdd (dC (.int 1)) (dCall F_law_pick (aCons (dVar 0) (aCons (dCB vLenA (aCons (dVar 1) aNil)) aNil)))) aNil))))))) (dCall F_law_pick (aCons (dVar 0) (aCons (dC (.int 6)) aNil)))) (gNm 5))
(dDrop (dBM "list" vAppend (dVar 3) (aCons (dCB vTuple (aCons (dCB vSortE (aCons (dSl vSl (dCall F_law_mixed (aCons (dVar 0) (aCons (dVar 1) aNil))) oNone (oSome (dVar 5))) aNil)) aNil)) aNil)))))
(dRet (dVar 3))))
/-! ### _law_shaped -/
abbrev s_law_shaped : Stmt := topS 13
abbrev N_law_shaped : List Str := ["pool", "names", "way", "order", "pairs", "size", "place", "left", "name"]
theorem sc_law_shaped : FnScope N_law_shaped ["pool", "names", "way"] (defScope s_law_shaped) := ⟨rfl, rfl, rfl, by decide +kernel, rfl, by decide +kernel, by decide +kernel⟩
def d_law_shaped (F_law_mixed : DSpec) (F_law_pick : DSpec) : DS :=
(dSeq (dAsg (dCall F_law_mixed (aCons (dVar 0) (aCons (dVar 1) aNil))) (gNm 3))
(dSeq (dAsg (dComp (iRng3 (aCons (dC (.int 0)) (aCons (dCB vLenA (aCons (dVar 3) aNil)) (aCons (dC (.int 2)) aNil)))) (gNm 6) dYes (dCB vTuple (aCons (dCB vSortE (aCons (dSl vSl (dVar 3) (oSome (dVar 6)) (oSome (dOp vAdd (dVar 6) (dC (.int 2))))) aNil)) aNil)) [6]) (gNm 4))
(dSeq (dIfS (dB (dOp vEq (dVar 2) (dC (.int 0))))
(dRet (dVar 4))
dNext)
(dSeq (dIfS (dB (dOp vEq (dVar 2) (dC (.int 1))))
(dRet (dComp (iRng1 (aCons (dOp vSub (dCB vLenA (aCons (dVar 3) aNil)) (dC (.int 1))) aNil)) (gNm 6) dYes (dCB vTuple (aCons (dCB vSortE (aCons (dSl vSl (dVar 3) (oSome (dVar 6)) (oSome (dOp vAdd (dVar 6) (dC (.int 2))))) aNil)) aNil)) [6]))
dNext)
(dSeq (dIfS (dB (dOp vEq (dVar 2) (dC (.int 2))))
(dRet (dComp (iSeq (dVar 1)) (gNm 7) dYes (dCB vTuple (aCons (dCB vSortE (aCons (dComp (iSeq (dVar 1)) (gNm 8) (dB (dOp vNe (dVar 8) (dVar 7))) (dVar 8) [8]) aNil)) aNil)) [7]))
dNext)
(dSeq (dIfS (dB (dOp vEq (dVar 2) (dC (.int 3))))
(dRet (dOp vAdd (dComp (iSeq (dSl vSl (dVar 3) (oSome (dC (.int 1))) oNone)) (gNm 8) dYes (dCB vTuple (aCons (dCB vSortE (aCons (dLst (aCons (dOp vIxA (dVar 3) (dC (.int 0))) (aCons (dVar 8) aNil))) aNil)) aNil)) [8]) (dLst (aCons (dCB vTuple (aCons (dCB vSortE (aCons (dSl vSl (dVar 3) (oSome (dC (.int 1))) oNone) aNil)) aNil)) aNil))))
dNext)
(dSeq (dAsg (dOp vAdd (dC (.int 1)) (dCall F_law_pick (aCons (dVar 0) (aCons (dCB vLenA (aCons (dVar 1) aNil)) aNil)))) (gNm 5))
(dRet (dComp (iRng1 (aCons (dCB vLenA (aCons (dVar 3) aNil)) aNil)) (gNm 6) dYes (dCB vTuple (aCons (dCB vSortSetK (aCons (dLst (aCons (dOp vIxA (dVar 3) (dVar 6)) (aCons (dOp vIxA (dVar 3) (dOp vMod (dOp vAdd (dVar 6) (dVar 5)) (dCB vLenA (aCons (dVar 3) aNil)))) (aCons (dOp vIxA (dVar 3) (dOp vMod (dOp vAdd (dVar 6) (dC (.int 2))) (dCB vLenA (aCons (dVar 3) aNil)))) aNil)))) aNil)) aNil)) [6])))))))))
/-! ### _law_forty -/
abbrev s_law_forty : Stmt := topS 14
abbrev N_law_forty : List Str := ["pool", "names", "family", "one", "other", "rest"]
theorem sc_law_forty : FnScope N_law_forty ["pool", "names"] (defScope s_law_forty) := ⟨rfl, rfl, rfl, by decide +kernel, rfl, by decide +kernel, by decide +kernel⟩
def d_law_forty (F_law_free : DSpec) (F_law_mixed : DSpec) (F_law_pick : DSpec) : DS :=
(dSeq (dAsg (dLst aNil) (gNm 2))
(dSeq (dFor (iSeq (dVar 1)) (gNm 3)
(dFor (iSeq (dVar 1)) (gNm 4)
(dIfS (dB (dOp vLt (dVar 3) (dVar 4)))
(dDrop (dBM "list" vAppend (dVar 2) (aCons (dTup (aCons (dVar 3) (aCons (dVar 4) aNil))) aNil)))
dNext)))
(dSeq (dAsg (dCall F_law_free (aCons (dVar 0) (aCons (dVar 1) (aCons (dC (.int 40)) aNil)))) (gNm 5))
(dRet (dSl vSl (dOp vAdd (dSl vSl (dCall F_law_mixed (aCons (dVar 0) (aCons (dVar 2) aNil))) oNone (oSome (dOp vAdd (dC (.int 20)) (dCall F_law_pick (aCons (dVar 0) (aCons (dC (.int 9)) aNil)))))) (dComp (iSeq (dVar 5)) (gNm 3) (dB (dOp vGt (dCB vLenA (aCons (dVar 3) aNil)) (dC (.int 1)))) (dVar 3) [3])) oNone (oSome (dC (.int 40))))))))
/-! ### _law_family -/
abbrev s_law_family : Stmt := topS 15
abbrev N_law_family : List Str := ["pool", "way", "names", "family"]
theorem sc_law_family : FnScope N_law_family ["pool"] (defScope s_law_family) := ⟨rfl, rfl, rfl, by decide +kernel, rfl, by decide +kernel, by decide +kernel⟩
def d_law_family (F_law_pick : DSpec) (F_law_mixed : DSpec) (F_law_names : DSpec) (F_law_forty : DSpec) (F_law_free : DSpec) (F_law_shaped : DSpec) : DS :=
(dSeq (dAsg (dCall F_law_pick (aCons (dVar 0) (aCons (dC (.int 13)) aNil))) (gNm 1))
(dSeq (dAsg (dCall F_law_mixed (aCons (dVar 0) (aCons (dCall F_law_names (aCons (dVar 0) (aCons (dIf (dB (dOp vEq (dVar 1) (dC (.int 12)))) (dC (.int 8)) (dOp vAdd (dC (.int 1)) (dCall F_law_pick (aCons (dVar 0) (aCons (dC (.int 6)) aNil))))) aNil))) aNil))) (gNm 2))
(dSeq (dIfS (dB (dOp vEq (dVar 1) (dC (.int 12))))
(dSeq (dAsg (dCall F_law_forty (aCons (dVar 0) (aCons (dVar 2) aNil))) (gNm 3))
(dAsg (dOp vAdd (dVar 3) (dCall F_law_free (aCons (dVar 0) (aCons (dVar 2) (aCons (dOp vSub (dC (.int 40)) (dCB vLenA (aCons (dVar 3) aNil))) aNil))))) (gNm 3)))
(dIfS (dB (dOp vLt (dVar 1) (dC (.int 7))))
(dAsg (dCall F_law_free (aCons (dVar 0) (aCons (dVar 2) (aCons (dCall F_law_pick (aCons (dVar 0) (aCons (dC (.int 9)) aNil))) aNil)))) (gNm 3))
(dAsg (dSl vSl (dCall F_law_shaped (aCons (dVar 0) (aCons (dVar 2) (aCons (dOp vSub (dVar 1) (dC (.int 7))) aNil)))) oNone (oSome (dC (.int 8)))) (gNm 3))))
(dSeq (dIfS (dAndT (dB (dOp vLt (dVar 1) (dC (.int 12)))) (dB (dOp vEq (dCall F_law_pick (aCons (dVar 0) (aCons (dC (.int 3)) aNil))) (dC (.int 0)))))
(dAsg (dOp vAdd (dVar 3) (dSl vSl (dCall F_law_mixed (aCons (dVar 0) (aCons (dVar 3) aNil))) oNone (oSome (dC (.int 2))))) (gNm 3))
dNext)
(dRet (dCB vTuple (aCons (dCall F_law_mixed (aCons (dVar 0) (aCons (dVar 3) aNil))) aNil)))))))
/-! ### _law_prices -/
abbrev s_law_prices : Stmt := topS 16
abbrev N_law_prices : List Str := ["pool", "family", "names", "one", "habit", "prices", "name"]
theorem sc_law_prices : FnScope N_law_prices ["pool", "family"] (defScope s_law_prices) := ⟨rfl, rfl, rfl, by decide +kernel, rfl, by decide +kernel, by decide +kernel⟩
def d_law_prices (F_law_pick : DSpec) (F_law_mixed : DSpec) : DS :=
(dSeq (dAsg (dLst aNil) (gNm 2))
(dSeq (dFor (iSeq (dVar 1)) (gNm 3)
(dDrop (dBM "list" vExtend (dVar 2) (aCons (dComp (iSeq (dVar 3)) (gNm 6) (dB (dOp (vInA true) (dVar 6) (dVar 2))) (dVar 6) [6]) aNil))))
(dSeq (dAsg (dCall F_law_pick (aCons (dVar 0) (aCons (dC (.int 4)) aNil))) (gNm 4))
(dSeq (dAsg (dLst aNil) (gNm 5))
(dSeq (dFor (iSeq (dCall F_law_mixed (aCons (dVar 0) (aCons (dVar 2) aNil)))) (gNm 6)
(dDrop (dBM "list" vAppend (dVar 5) (aCons (dTup (aCons (dVar 6) (aCons (dOp vIxA (dLst (aCons (dC (.int 1)) (aCons (dOp vAdd (dC (.int 1)) (dCall F_law_pick (aCons (dVar 0) (aCons (dC (.int 3)) aNil)))) (aCons (dOp vAdd (dC (.int 1)) (dCall F_law_pick (aCons (dVar 0) (aCons (dC (.int 300)) aNil)))) (aCons (dOp vSub (dOp vPow (dC (.int 10)) (dC (.int 6))) (dCall F_law_pick (aCons (dVar 0) (aCons (dC (.int 2)) aNil)))) aNil))))) (dVar 4)) aNil))) aNil))))
(dRet (dCB vTupF (aCons (dVar 5) aNil))))))))
/-! ### _law_told_sets -/
abbrev s_law_told_sets : Stmt := topS 17
abbrev N_law_told_sets : List Str := ["told", "due", "one", "other", "name", "wanted"]
theorem sc_law_told_sets : FnScope N_law_told_sets ["told", "due"] (defScope s_law_told_sets) := ⟨rfl, rfl, rfl, by decide +kernel, rfl, by decide +kernel, by decide +kernel⟩
def d_law_told_sets : DS :=
(dSeq (dIfS (dOrT (dNotT (dTru (dCB vIsi (aCons (dVar 0) (aCons (dC (.raw (.ty "tuple"))) aNil))))) (dB (dOp vNe (dCB vLenA (aCons (dVar 0) aNil)) (dCB vLenA (aCons (dVar 1) aNil)))))
(dRet (dC (.bl false)))
dNext)
(dSeq (dFor (iZip (aCons (dVar 0) (aCons (dVar 1) aNil))) (gTp 2 (gC (gNm 2) (gC (gNm 3) gN0)))
(dSeq (dIfS (dOrT (dNotT (dTru (dCB vIsi (aCons (dVar 2) (aCons (dC (.raw (.ty "tuple"))) aNil))))) (dB (dOp vNe (dCB vLenA (aCons (dVar 2) aNil)) (dCB vLenA (aCons (dVar 3) aNil)))))
(dRet (dC (.bl false)))
dNext)
(dIfS (dNotT (dTru (dCB (vAny fun bs => bs.all id) (aCons (dComp (iZip (aCons (dVar 2) (aCons (dVar 3) aNil))) (gTp 2 (gC (gNm 4) (gC (gNm 5) gN0))) dYes (dAndV (dCB vIsi (aCons (dVar 4) (aCons (dC (.raw (.ty "str"))) aNil))) (dOp vEq (dVar 4) (dVar 5))) [4, 5]) aNil))))
(dRet (dC (.bl false)))
dNext)))
(dRet (dC (.bl true)))))
/-! ### _law_told_cheapest -/
abbrev s_law_told_cheapest : Stmt := topS 18
abbrev N_law_told_cheapest : List Str := ["told", "due"]
theorem sc_law_told_cheapest : FnScope N_law_told_cheapest ["told", "due"] (defScope s_law_told_cheapest) := ⟨rfl, rfl, rfl, by decide +kernel, rfl, by decide +kernel, by decide +kernel⟩
def d_law_told_cheapest (F_law_told_sets : DSpec) : DS :=
(dSeq (dIfS (dB (dOp (vIs false) (dVar 1) (dC .non)))
(dRet (dOp (vIs false) (dVar 0) (dC .non)))
dNext)
(dSeq (dIfS (dOrT (dNotT (dTru (dCB vIsi (aCons (dVar 0) (aCons (dC (.raw (.ty "tuple"))) aNil))))) (dOrT (dB (dOp vNe (dCB vLenA (aCons (dVar 0) aNil)) (dC (.int 2)))) (dOrT (dNotT (dTru (dCB vIsi (aCons (dOp vIxA (dVar 0) (dC (.int 0))) (aCons (dC (.raw (.ty "int"))) aNil))))) (dTru (dCB vIsi (aCons (dOp vIxA (dVar 0) (dC (.int 0))) (aCons (dC (.raw (.ty "bool"))) aNil)))))))
(dRet (dC (.bl false)))
dNext)
(dRet (dAndV (dOp vEq (dOp vIxA (dVar 0) (dC (.int 0))) (dOp vIxA (dVar 1) (dC (.int 0)))) (dCall F_law_told_sets (aCons (dTup (aCons (dOp vIxA (dVar 0) (dC (.int 1))) aNil)) (aCons (dTup (aCons (dOp vIxA (dVar 1) (dC (.int 1))) aNil)) aNil)))))))
/-! ### _law_asked -/
abbrev s_law_asked : Stmt := topS 19
abbrev N_law_asked : List Str := ["pool", "family", "due", "prices", "other", "least", "name", "price", "one", "less"]
theorem sc_law_asked : FnScope N_law_asked ["pool", "family"] (defScope s_law_asked) := ⟨rfl, rfl, rfl, by decide +kernel, rfl, by decide +kernel, by decide +kernel⟩
def d_law_asked (F_law_least_sets : DSpec) (F_law_prices : DSpec) (F_law_told_sets : DSpec) (F_hitting_sets : DSpec) (F_law_told_cheapest : DSpec) (F_law_cheapest : DSpec) (F_cheapest_hitting : DSpec) : DS :=
(dSeq (dAsg (dCall F_law_least_sets (aCons (dVar 1) aNil)) (gNm 2))
(dSeq (dAsg (dCall F_law_prices (aCons (dVar 0) (aCons (dVar 1) aNil))) (gNm 3))
(dSeq (dIfS (dOrT (dNotT (dTru (dCall F_law_told_sets (aCons (dCall F_hitting_sets (aCons (dVar 1) aNil)) (aCons (dVar 2) aNil))))) (dNotT (dTru (dCall F_law_told_cheapest (aCons (dCall F_cheapest_hitting (aCons (dVar 1) (aCons (dVar 3) aNil))) (aCons (dCall F_law_cheapest (aCons (dVar 2) (aCons (dVar 3) aNil))) aNil))))))
(dRet (dC (.bl false)))
dNext)
(dSeq (dAsg (dCB vTupF (aCons (dComp (iSeqF (dVar 3)) (gTp 2 (gC (gNm 6) (gC (gNm 7) gN0))) dYes (dTup (aCons (dVar 6) (aCons (dIf (dB (dOp vGt (dVar 7) (dC (.int 1)))) (dC (.int 1)) (dC (.int 2))) aNil))) [6, 7]) aNil)) (gNm 4))
(dSeq (dIfS (dNotT (dTru (dCall F_law_told_cheapest (aCons (dCall F_cheapest_hitting (aCons (dVar 1) (aCons (dVar 4) aNil))) (aCons (dCall F_law_cheapest (aCons (dVar 2) (aCons (dVar 4) aNil))) aNil)))))
(dRet (dC (.bl false)))
dNext)
(dSeq (dIfS (dOrT (dB (dOp vGt (dCB vLenA (aCons (dVar 2) aNil)) (dC (.int 40)))) (dNotT (dTru (dVar 2))))
(dRet (dC (.bl true)))
dNext)
(dSeq (dAsg (dComp (iSeq (dVar 1)) (gNm 8) (dNotT (dTru (dCB (vAny fun bs => bs.any id) (aCons (dComp (iSeq (dVar 1)) (gNm 9) dYes (dAndV (dOp vLt (dCB vLenA (aCons (dVar 9) aNil)) (dCB vLenA (aCons (dVar 8) aNil))) (dCB (vAny fun bs => bs.all id) (aCons (dComp (iSeq (dVar 9)) (gNm 6) dYes (dOp (vInA false) (dVar 6) (dVar 8)) [6]) aNil))) [9]) aNil)))) (dVar 8) [8]) (gNm 5))
(dRet (dCall F_law_told_sets (aCons (dCall F_hitting_sets (aCons (dCB vTuple (aCons (dVar 2) aNil)) aNil)) (aCons (dCB vSortSet (aCons (dVar 5) aNil)) aNil)))))))))))
/-! ### law -/
abbrev s_law : Stmt := topS 20
abbrev N_law : List Str := ["script", "pool", "family", "empty", "prices", "again"]
theorem sc_law : FnScope N_law ["script"] (defScope s_law) := ⟨rfl, rfl, rfl, by decide +kernel, rfl, by decide +kernel, by decide +kernel⟩
def d_law (F_law_pool : DSpec) (F_law_family : DSpec) (F_law_asked : DSpec) (F_law_mixed : DSpec) (F_law_prices : DSpec) (F_law_told_sets : DSpec) (F_hitting_sets : DSpec) (F_cheapest_hitting : DSpec) (F_law_least_sets : DSpec) (F_law_told_cheapest : DSpec) : DS :=
(dSeq (dAsg (dCall F_law_pool (aCons (dVar 0) (aCons (dC (.int 700)) aNil))) (gNm 1))
(dSeq (dAsg (dCall F_law_family (aCons (dVar 1) aNil)) (gNm 2))
(dSeq (dIfS (dNotT (dTru (dCall F_law_asked (aCons (dVar 1) (aCons (dVar 2) aNil)))))
(dRet (dC (.bl false)))
dNext)
(dSeq (dAsg (dCB vTuple (aCons (dCall F_law_mixed (aCons (dVar 1) (aCons (dOp vAdd (dCB vListA (aCons (dSl vSl (dVar 2) oNone (oSome (dC (.int 39)))) aNil)) (dLst (aCons (dTup aNil) aNil))) aNil))) aNil)) (gNm 3))
(dSeq (dAsg (dCall F_law_prices (aCons (dVar 1) (aCons (dVar 3) aNil))) (gNm 4))
(dSeq (dIfS (dOrT (dNotT (dTru (dCall F_law_told_sets (aCons (dCall F_hitting_sets (aCons (dVar 3) aNil)) (aCons (dTup aNil) aNil))))) (dB (dOp (vIs true) (dCall F_cheapest_hitting (aCons (dVar 3) (aCons (dVar 4) aNil))) (dC .non))))
(dRet (dC (.bl false)))
dNext)
(dSeq (dAsg (dCB vTuple (aCons (dCall F_law_mixed (aCons (dVar 1) (aCons (dVar 2) aNil))) aNil)) (gNm 5))
(dSeq (dIfS (dNotT (dTru (dCall F_law_told_sets (aCons (dCall F_hitting_sets (aCons (dVar 5) aNil)) (aCons (dCall F_law_least_sets (aCons (dVar 2) aNil)) aNil)))))
(dRet (dC (.bl false)))
dNext)
(dRet (dAndV (dCall F_law_told_sets (aCons (dCall F_hitting_sets (aCons (dTup aNil) aNil)) (aCons (dTup (aCons (dTup aNil) aNil)) aNil))) (dCall F_law_told_cheapest (aCons (dCall F_cheapest_hitting (aCons (dTup aNil) (aCons (dTup aNil) aNil))) (aCons (dTup (aCons (dC (.int 0)) (aCons (dTup aNil) aNil))) aNil)))))))))))))
section
variable {P : Program} {w : World} {K : Fg} {mg : Str → Option Value} {base : Heap}
theorem der_hitting_sets (T : Txt mg) (f : Addr) (cdv : Value) (A : Around) (outer : List PySem.Env) (s : Shared) (H : Hp) (E : XK) (hr : Room 0 (A.deeper (envOfC "hitting_sets" (defScope s_hitting_sets) s.heap.objs.size f cdv))) :
  XSs (cxOf CX0 P w K mg base N_hitting_sets "hitting_sets" (defScope s_hitting_sets) f cdv A outer s H E).nox (defBody s_hitting_sets) (d_hitting_sets) :=
(xss_cons (xs_set 1 sc_hitting_sets.nd (xe_sortSC2 [("member", 6), ("name", 7)] [7] rfl hr.units80 (by rfl) T.z_sorted sc_hitting_sets.nd (xi_seq (xv 0)) (blkOk_by (by kernel_rfl)) (by decide) (fun _ _ _ _ _ => (xcg_name 6 sc_hitting_sets.nd)) (fun _ _ _ _ _ => xts_nil) (fun _ _ _ _ _ => (xi_seq (xv 6))) (fun _ _ _ _ _ => (xcg_name 7 sc_hitting_sets.nd)) (fun _ _ _ _ _ => xts_nil) (fun _ _ _ _ _ => (xv 7))))
(xss_cons (xs_set 2 sc_hitting_sets.nd (xe_dictCT [("at", 8), ("name", 7)] rfl sc_hitting_sets.nd (xi_enumerate (by rfl) T.z_enumerate (xa_cons (xv 1) xa_nil)) (blkOk_by (by kernel_rfl)) (fun _ _ _ _ _ => (xcgs_cons (xcg_name 8 sc_hitting_sets.nd) (xcgs_cons (xcg_name 7 sc_hitting_sets.nd) xcgs_nil))) (fun _ _ _ _ _ => xts_nil) (fun _ _ _ _ _ => (xv 7)) (fun _ _ _ _ _ => (xv 8))))
(xss_cons (xs_setComp 3 [("member", 6)] rfl sc_hitting_sets.nd (xi_seq (xv 0)) (blkOk_by (by kernel_rfl)) (fun _ _ _ _ _ => (xcg_name 6 sc_hitting_sets.nd)) (fun _ _ _ _ _ => xts_nil) (fun _ _ _ _ _ => (c_sum rfl (by rfl) T.z_sum (xa_cons (xe_comp [("name", 7)] rfl sc_hitting_sets.nd (xi_seq (xv 6)) (blkOk_by (by kernel_rfl)) (fun _ _ _ _ _ => (xcg_name 7 sc_hitting_sets.nd)) (fun _ _ _ _ _ => xts_nil) (fun _ _ _ _ _ => (x_shl xe_int (x_ixA hr.units (xv 2) (xv 7))))) xa_nil))) (sw_true rfl rfl rfl (by decide +kernel)))
(xss_cons (xs_set 4 sc_hitting_sets.nd (xe_lst xa_nil))
(xss_cons (xs_for PassesOwn.never rfl (xi_range1 (by rfl) T.z_range (xa_cons (x_shl xe_int (c_lenA (by rfl) T.z_len (xa_cons (xv 1) xa_nil))) xa_nil)) (xg_name 5 sc_hitting_sets.nd)
(xss_cons (xs_if (xt_not (xt_val (c_allI rfl (by rfl) T.z_all (xa_cons (xe_comp [("bits", 9)] rfl sc_hitting_sets.nd (xi_seq (xv 3)) (blkOk_by (by kernel_rfl)) (fun _ _ _ _ _ => (xcg_name 9 sc_hitting_sets.nd)) (fun _ _ _ _ _ => xts_nil) (fun _ _ _ _ _ => (x_band (xv 5) (xv 9)))) xa_nil))))
(xss_one xs_continue)
xss_nil)
(xss_one (xs_if (xt_not (xt_val (c_any rfl (by rfl) T.z_any (xa_cons (xe_comp [("lower", 10)] rfl sc_hitting_sets.nd (xi_seq (xv 4)) (blkOk_by (by kernel_rfl)) (fun _ _ _ _ _ => (xcg_name 10 sc_hitting_sets.nd)) (fun _ _ _ _ _ => xts_nil) (fun _ _ _ _ _ => (x_eq hr.units (x_band (xv 10) (xv 5)) (xv 10)))) xa_nil))))
(xss_one (xs_expr (m_append (xv 4) (xa_cons (xv 5) xa_nil))))
xss_nil))))
(xss_one (xs_ret (c_tuple (by rfl) T.z_tuple (xa_cons (c_sortE hr.units (by rfl) T.z_sorted (xa_cons (xe_comp [("chosen", 5)] rfl sc_hitting_sets.nd (xi_seq (xv 4)) (blkOk_by (by kernel_rfl)) (fun _ _ _ _ _ => (xcg_name 5 sc_hitting_sets.nd)) (fun _ _ _ _ _ => xts_nil) (fun _ _ _ _ _ => (c_tuple (by rfl) T.z_tuple (xa_cons (xe_comp [("name", 7)] rfl sc_hitting_sets.nd (xi_seq (xv 1)) (blkOk_by (by kernel_rfl)) (fun _ _ _ _ _ => (xcg_name 7 sc_hitting_sets.nd)) (fun _ _ _ _ _ => (xts_one (xt_val (x_band (x_shr (xv 5) (x_ixA hr.units (xv 2) (xv 7))) xe_int)))) (fun _ _ _ _ _ => (xv 7))) xa_nil)))) xa_nil)) xa_nil)))))))))
theorem der_cheapest_hitting (T : Txt mg) {F_hitting_sets : DSpec} (D_hitting_sets : TDef P w K mg base 1 "hitting_sets" s_hitting_sets ["family"] F_hitting_sets) (f : Addr) (cdv : Value) (A : Around) (outer : List PySem.Env) (s : Shared) (H : Hp) (E : XK) (hr : Room 1 (A.deeper (envOfC "cheapest_hitting" (defScope s_cheapest_hitting) s.heap.objs.size f cdv))) :
  XSs (cxOf CX0 P w K mg base N_cheapest_hitting "cheapest_hitting" (defScope s_cheapest_hitting) f cdv A outer s H E).nox (defBody s_cheapest_hitting) (d_cheapest_hitting F_hitting_sets) :=
(xss_cons (xs_set 2 sc_cheapest_hitting.nd (xe_dictCT [("name", 6), ("price", 5)] rfl sc_cheapest_hitting.nd (xi_seqF (xv 1)) (blkOk_by (by kernel_rfl)) (fun _ _ _ _ _ => (xcgs_cons (xcg_name 6 sc_cheapest_hitting.nd) (xcgs_cons (xcg_name 5 sc_cheapest_hitting.nd) xcgs_nil))) (fun _ _ _ _ _ => xts_nil) (fun _ _ _ _ _ => (xv 6)) (fun _ _ _ _ _ => (xv 5))))
(xss_cons (xs_set 3 sc_cheapest_hitting.nd xe_non)
(xss_cons (xs_for PassesOwn.never rfl (xi_seq (c_def D_hitting_sets hr (xa_cons (xv 0) xa_nil))) (xg_name 4 sc_cheapest_hitting.nd)
(xss_cons (xs_set 5 sc_cheapest_hitting.nd (c_sum rfl (by rfl) T.z_sum (xa_cons (xe_comp [("name", 6)] rfl sc_cheapest_hitting.nd (xi_seq (xv 4)) (blkOk_by (by kernel_rfl)) (fun _ _ _ _ _ => (xcg_name 6 sc_cheapest_hitting.nd)) (fun _ _ _ _ _ => xts_nil) (fun _ _ _ _ _ => (x_ixA hr.units (xv 2) (xv 6)))) xa_nil)))
(xss_one (xs_if (XW.xt (xw_or (t_is (xv 3) xe_non) (xw_or1 (t_lt (xv 5) (x_ixA hr.units (xv 3) xe_int)))))
(xss_one (xs_set 3 sc_cheapest_hitting.nd (xe_tup (xa_cons (xv 5) (xa_cons (xv 4) xa_nil)))))
xss_nil))))
(xss_one (xs_ret (xv 3))))))
theorem der_law_pool (T : Txt mg) (f : Addr) (cdv : Value) (A : Around) (outer : List PySem.Env) (s : Shared) (H : Hp) (E : XK) (hr : Room 0 (A.deeper (envOfC "_law_pool" (defScope s_law_pool) s.heap.objs.size f cdv))) :
  XSs (cxOf CX0 P w K mg base N_law_pool "_law_pool" (defScope s_law_pool) f cdv A outer s H E).nox (defBody s_law_pool) (d_law_pool) :=
(xss_cons (xs_setComp 2 [("cell", 4)] rfl sc_law_pool.nd (xi_seq (x_slice (xv 0) xo_none (xo_some xe_int))) (blkOk_by (by kernel_rfl)) (fun _ _ _ _ _ => (xcg_name 4 sc_law_pool.nd)) (fun _ _ _ _ _ => xts_nil) (fun _ _ _ _ _ => (c_abs (by rfl) T.z_abs (xa_cons (c_int (by rfl) T.z_int (xa_cons (xv 4) xa_nil)) xa_nil))) (sw_true rfl rfl rfl (by decide +kernel)))
(xss_cons (xs_set 3 sc_law_pool.nd xe_int)
(xss_cons (xs_for PassesOwn.never rfl (xi_seq (xv 2)) (xg_name 4 sc_law_pool.nd)
(xss_one (xs_set 3 sc_law_pool.nd (x_mod (c_int (by rfl) T.z_int (xa_cons (x_add (x_add (x_mul (xv 3) xe_int) (x_mul (xv 4) xe_int)) xe_int) xa_nil)) xe_int))))
(xss_cons (xs_set 5 sc_law_pool.nd (xe_lst xa_nil))
(xss_cons (xs_for PassesOwn.never rfl (xi_range1 (by rfl) T.z_range (xa_cons (xv 1) xa_nil)) (xg_name 6 sc_law_pool.nd)
(xss_cons (xs_set 3 sc_law_pool.nd (x_mod (c_int (by rfl) T.z_int (xa_cons (x_add (x_add (x_mul (xv 3) xe_int) (x_mul (xv 6) xe_int)) xe_int) xa_nil)) xe_int))
(xss_cons (xs_set 7 sc_law_pool.nd (x_mod (c_int (by rfl) T.z_int (xa_cons (x_add (x_div (xv 3) xe_int) (x_div (x_mul (xv 3) (xv 3)) xe_int)) xa_nil)) xe_int))
(xss_cons (xs_if (xt_val (xv 2))
(xss_cons (xs_set 4 sc_law_pool.nd (x_ixA hr.units (xv 2) (x_mod (xv 6) (c_lenA (by rfl) T.z_len (xa_cons (xv 2) xa_nil)))))
(xss_one (xs_if (t_ge (xv 4) (x_pow xe_int xe_int))
(xss_cons (xs_set 7 sc_law_pool.nd (x_mod (c_int (by rfl) T.z_int (xa_cons (xv 4) xa_nil)) xe_int))
(xss_one (xs_asg (x_div (xv 4) xe_int) (g_subA hr.units (xv 2) (x_mod (xv 6) (c_lenA (by rfl) T.z_len (xa_cons (xv 2) xa_nil)))))))
xss_nil)))
xss_nil)
(xss_one (xs_expr (m_append (xv 5) (xa_cons (xv 7) xa_nil))))))))
(xss_one (xs_ret (xv 5))))))))
theorem der_law_pick (T : Txt mg) (f : Addr) (cdv : Value) (A : Around) (outer : List PySem.Env) (s : Shared) (H : Hp) (E : XK) (hr : Room 0 (A.deeper (envOfC "_law_pick" (defScope s_law_pick) s.heap.objs.size f cdv))) :
  XSs (cxOf CX0 P w K mg base N_law_pick "_law_pick" (defScope s_law_pick) f cdv A outer s H E).nox (defBody s_law_pick) (d_law_pick) :=
(xss_cons (xs_if (XW.xt (xw_or (xt_not (xt_val (xv 0))) (xw_or1 (t_lt (xv 1) xe_int))))
(xss_one (xs_ret xe_int))
xss_nil)
(xss_one (xs_ret (x_mod (c_int (by rfl) T.z_int (xa_cons (m_pop1 (xv 0) (xa_cons xe_int xa_nil)) xa_nil)) (xv 1)))))
theorem der_law_value (T : Txt mg) {F_law_pick : DSpec} (D_law_pick : TDef P w K mg base 1 "_law_pick" s_law_pick ["pool", "many"] F_law_pick) (f : Addr) (cdv : Value) (A : Around) (outer : List PySem.Env) (s : Shared) (H : Hp) (E : XK) (hr : Room 1 (A.deeper (envOfC "_law_value" (defScope s_law_value) s.heap.objs.size f cdv))) :
  XSs (cxOf CX0 P w K mg base N_law_value "_law_value" (defScope s_law_value) f cdv A outer s H E).nox (defBody s_law_value) (d_law_value F_law_pick) :=
(xss_cons (xs_set 1 sc_law_value.nd (c_def D_law_pick hr (xa_cons (xv 0) (xa_cons xe_int xa_nil))))
(xss_cons (xs_set 2 sc_law_value.nd (c_def D_law_pick hr (xa_cons (xv 0) (xa_cons xe_int xa_nil))))
(xss_cons (xs_if (t_lt (xv 1) xe_int)
(xss_one (xs_ret (x_mod (c_int (by rfl) T.z_int (xa_cons (xv 2) xa_nil)) xe_int)))
xss_nil)
(xss_cons (xs_if (t_eq hr.units (xv 1) xe_int)
(xss_one (xs_ret (x_sub (x_pow xe_int xe_int) (x_mod (c_int (by rfl) T.z_int (xa_cons (xv 2) xa_nil)) xe_int))))
xss_nil)
(xss_one (xs_ret (x_mod (c_int (by rfl) T.z_int (xa_cons (x_mul (xv 2) (xv 2)) xa_nil)) (x_add (x_pow xe_int xe_int) xe_int))))))))
theorem der_law_names (T : Txt mg) {F_law_pick : DSpec} (D_law_pick : TDef P w K mg base 1 "_law_pick" s_law_pick ["pool", "many"] F_law_pick) (f : Addr) (cdv : Value) (A : Around) (outer : List PySem.Env) (s : Shared) (H : Hp) (E : XK) (hr : Room 1 (A.deeper (envOfC "_law_names" (defScope s_law_names) s.heap.objs.size f cdv))) :
  XSs (cxOf CX0 P w K mg base N_law_names "_law_names" (defScope s_law_names) f cdv A outer s H E).nox (defBody s_law_names) (d_law_names F_law_pick) :=
(xss_cons (xs_set 2 sc_law_names.nd (x_ixA hr.units xe_str (c_def D_law_pick hr (xa_cons (xv 0) (xa_cons xe_int xa_nil)))))
(xss_cons (xs_if (t_eq hr.units (c_def D_law_pick hr (xa_cons (xv 0) (xa_cons xe_int xa_nil))) xe_int)
(xss_one (xs_ret (xe_comp [("place", 5)] rfl sc_law_names.nd (xi_range1 (by rfl) T.z_range (xa_cons (xv 1) xa_nil)) (blkOk_by (by kernel_rfl)) (fun _ _ _ _ _ => (xcg_name 5 sc_law_names.nd)) (fun _ _ _ _ _ => xts_nil) (fun _ _ _ _ _ => (x_add (xv 2) (c_str (by rfl) T.z_str (xa_cons (xv 5) xa_nil)))))))
xss_nil)
(xss_cons (xs_set 3 sc_law_names.nd xe_str)
(xss_cons (xs_set 4 sc_law_names.nd (xe_lst (xa_cons xe_str (xa_cons xe_str (xa_cons xe_str (xa_cons xe_str (xa_cons xe_str (xa_cons xe_str (xa_cons xe_str (xa_cons xe_str xa_nil))))))))))
(xss_one (xs_ret (xe_comp [("place", 5)] rfl sc_law_names.nd (xi_range1 (by rfl) T.z_range (xa_cons (xv 1) xa_nil)) (blkOk_by (by kernel_rfl)) (fun _ _ _ _ _ => (xcg_name 5 sc_law_names.nd)) (fun _ _ _ _ _ => xts_nil) (fun _ _ _ _ _ => (x_add (x_add (x_ixA hr.units (xv 3) (c_def D_law_pick hr (xa_cons (xv 0) (xa_cons xe_int xa_nil)))) (xe_if (xt_val (xv 5)) (c_str (by rfl) T.z_str (xa_cons (xv 5) xa_nil)) xe_str)) (x_ixA hr.units (xv 4) (c_def D_law_pick hr (xa_cons (xv 0) (xa_cons xe_int xa_nil)))))))))))))
theorem der_law_mixed (T : Txt mg) {F_law_pick : DSpec} (D_law_pick : TDef P w K mg base 1 "_law_pick" s_law_pick ["pool", "many"] F_law_pick) (f : Addr) (cdv : Value) (A : Around) (outer : List PySem.Env) (s : Shared) (H : Hp) (E : XK) (hr : Room 1 (A.deeper (envOfC "_law_mixed" (defScope s_law_mixed) s.heap.objs.size f cdv))) :
  XSs (cxOf CX0 P w K mg base N_law_mixed "_law_mixed" (defScope s_law_mixed) f cdv A outer s H E).nox (defBody s_law_mixed) (d_law_mixed F_law_pick) :=
(xss_cons (xs_set 2 sc_law_mixed.nd (c_listA rfl (by rfl) T.z_list (xa_cons (xv 1) xa_nil)))
(xss_cons (xs_set 3 sc_law_mixed.nd (xe_lst xa_nil))
(xss_cons (xs_for PassesOwn.never rfl (xi_range1 (by rfl) T.z_range (xa_cons (c_lenA (by rfl) T.z_len (xa_cons (xv 1) xa_nil)) xa_nil)) (xg_name 4 sc_law_mixed.nd)
(xss_one (xs_expr (m_append (xv 3) (xa_cons (m_pop1 (xv 2) (xa_cons (c_def D_law_pick hr (xa_cons (xv 0) (xa_cons (c_lenA (by rfl) T.z_len (xa_cons (xv 2) xa_nil)) xa_nil))) xa_nil)) xa_nil)))))
(xss_one (xs_ret (xv 3))))))
theorem der_law_hits_all (T : Txt mg) (f : Addr) (cdv : Value) (A : Around) (outer : List PySem.Env) (s : Shared) (H : Hp) (E : XK) (hr : Room 0 (A.deeper (envOfC "_law_hits_all" (defScope s_law_hits_all) s.heap.objs.size f cdv))) :
  XSs (cxOf CX0 P w K mg base N_law_hits_all "_law_hits_all" (defScope s_law_hits_all) f cdv A outer s H E).nox (defBody s_law_hits_all) (d_law_hits_all) :=
(xss_cons (xs_for PassesOwn.never rfl (xi_seq (xv 1)) (xg_name 2 sc_law_hits_all.nd)
(xss_one (xs_if (xt_not (xt_val (c_any rfl (by rfl) T.z_any (xa_cons (xe_comp [("name", 3)] rfl sc_law_hits_all.nd (xi_seq (xv 0)) (blkOk_by (by kernel_rfl)) (fun _ _ _ _ _ => (xcg_name 3 sc_law_hits_all.nd)) (fun _ _ _ _ _ => xts_nil) (fun _ _ _ _ _ => (x_inA hr.units (xv 3) (xv 2)))) xa_nil))))
(xss_one (xs_ret xe_bl))
xss_nil)))
(xss_one (xs_ret xe_bl)))
theorem der_law_least_sets (T : Txt mg) {F_law_hits_all : DSpec} (D_law_hits_all : TDef P w K mg base 1 "_law_hits_all" s_law_hits_all ["chosen", "family"] F_law_hits_all) (f : Addr) (cdv : Value) (A : Around) (outer : List PySem.Env) (s : Shared) (H : Hp) (E : XK) (hr : Room 1 (A.deeper (envOfC "_law_least_sets" (defScope s_law_least_sets) s.heap.objs.size f cdv))) :
  XSs (cxOf CX0 P w K mg base N_law_least_sets "_law_least_sets" (defScope s_law_least_sets) f cdv A outer s H E).nox (defBody s_law_least_sets) (d_law_least_sets F_law_hits_all) :=
(xss_cons (xs_set 1 sc_law_least_sets.nd (xe_lst xa_nil))
(xss_cons (xs_for PassesOwn.never rfl (xi_seq (xv 0)) (xg_name 2 sc_law_least_sets.nd)
(xss_one (xs_expr (m_extend (xv 1) (xa_cons (xe_comp [("name", 4)] rfl sc_law_least_sets.nd (xi_seq (xv 2)) (blkOk_by (by kernel_rfl)) (fun _ _ _ _ _ => (xcg_name 4 sc_law_least_sets.nd)) (fun _ _ _ _ _ => (xts_one (t_notinA hr.units (xv 4) (xv 1)))) (fun _ _ _ _ _ => (xv 4))) xa_nil)))))
(xss_cons (xs_set 1 sc_law_least_sets.nd (c_sortE hr.units (by rfl) T.z_sorted (xa_cons (xv 1) xa_nil)))
(xss_cons (xs_set 3 sc_law_least_sets.nd (xe_lst (xa_cons (xe_tup xa_nil) xa_nil)))
(xss_cons (xs_for PassesOwn.never rfl (xi_seq (xv 1)) (xg_name 4 sc_law_least_sets.nd)
(xss_one (xs_set 3 sc_law_least_sets.nd (x_add (xv 3) (xe_comp [("chosen", 6)] rfl sc_law_least_sets.nd (xi_seq (xv 3)) (blkOk_by (by kernel_rfl)) (fun _ _ _ _ _ => (xcg_name 6 sc_law_least_sets.nd)) (fun _ _ _ _ _ => xts_nil) (fun _ _ _ _ _ => (x_add (xv 6) (xe_tup (xa_cons (xv 4) xa_nil)))))))))
(xss_cons (xs_set 5 sc_law_least_sets.nd (xe_lst xa_nil))
(xss_cons (xs_for PassesOwn.never rfl (xi_seq (xe_sortLen hr.units80 (by rfl) T.z_sorted (by rfl) T.z_len (xv 3))) (xg_name 6 sc_law_least_sets.nd)
(xss_one (xs_if (XW.xt (xw_and (xt_not (xt_val (c_any rfl (by rfl) T.z_any (xa_cons (xe_comp [("less", 7)] rfl sc_law_least_sets.nd (xi_seq (xv 5)) (blkOk_by (by kernel_rfl)) (fun _ _ _ _ _ => (xcg_name 7 sc_law_least_sets.nd)) (fun _ _ _ _ _ => xts_nil) (fun _ _ _ _ _ => (c_all rfl (by rfl) T.z_all (xa_cons (xe_comp [("name", 4)] rfl sc_law_least_sets.nd (xi_seq (xv 7)) (blkOk_by (by kernel_rfl)) (fun _ _ _ _ _ => (xcg_name 4 sc_law_least_sets.nd)) (fun _ _ _ _ _ => xts_nil) (fun _ _ _ _ _ => (x_inA hr.units (xv 4) (xv 6)))) xa_nil)))) xa_nil)))) (xw_and1 (xt_val (c_def D_law_hits_all hr (xa_cons (xv 6) (xa_cons (xv 0) xa_nil)))))))
(xss_one (xs_expr (m_append (xv 5) (xa_cons (xv 6) xa_nil))))
xss_nil)))
(xss_one (xs_ret (c_sortE hr.units (by rfl) T.z_sorted (xa_cons (xv 5) xa_nil)))))))))))
theorem der_law_cheapest (T : Txt mg) (f : Addr) (cdv : Value) (A : Around) (outer : List PySem.Env) (s : Shared) (H : Hp) (E : XK) (hr : Room 0 (A.deeper (envOfC "_law_cheapest" (defScope s_law_cheapest) s.heap.objs.size f cdv))) :
  XSs (cxOf CX0 P w K mg base N_law_cheapest "_law_cheapest" (defScope s_law_cheapest) f cdv A outer s H E).nox (defBody s_law_cheapest) (d_law_cheapest) :=
(xss_cons (xs_set 2 sc_law_cheapest.nd (c_dictF rfl (by rfl) T.z_dict (xa_cons (xv 1) xa_nil)))
(xss_cons (xs_set 3 sc_law_cheapest.nd xe_non)
(xss_cons (xs_for PassesOwn.never rfl (xi_seq (xv 0)) (xg_name 4 sc_law_cheapest.nd)
(xss_cons (xs_set 5 sc_law_cheapest.nd (c_sum rfl (by rfl) T.z_sum (xa_cons (xe_comp [("name", 6)] rfl sc_law_cheapest.nd (xi_seq (xv 4)) (blkOk_by (by kernel_rfl)) (fun _ _ _ _ _ => (xcg_name 6 sc_law_cheapest.nd)) (fun _ _ _ _ _ => xts_nil) (fun _ _ _ _ _ => (x_ixA hr.units (xv 2) (xv 6)))) xa_nil)))
(xss_one (xs_if (XW.xt (xw_or (t_is (xv 3) xe_non) (xw_or1 (t_lt (xv 5) (x_ixA hr.units (xv 3) xe_int)))))
(xss_one (xs_set 3 sc_law_cheapest.nd (xe_tup (xa_cons (xv 5) (xa_cons (xv 4) xa_nil)))))
xss_nil))))
(xss_one (xs_ret (xv 3))))))
theorem der_law_free (T : Txt mg) {F_law_pick : DSpec} {F_law_mixed : DSpec} (D_law_pick : TDef P w K mg base 1 "_law_pick" s_law_pick ["pool", "many"] F_law_pick) (D_law_mixed : TDef P w K mg base 2 "_law_mixed" s_law_mixed ["pool", "things"] F_law_mixed) (f : Addr) (cdv : Value) (A : Around) (outer : List PySem.Env) (s : Shared) (H : Hp) (E : XK) (hr : Room 2 (A.deeper (envOfC "_law_free" (defScope s_law_free) s.heap.objs.size f cdv))) :
  XSs (cxOf CX0 P w K mg base N_law_free "_law_free" (defScope s_law_free) f cdv A outer s H E).nox (defBody s_law_free) (d_law_free F_law_pick F_law_mixed) :=
(xss_cons (xs_set 3 sc_law_free.nd (xe_lst xa_nil))
(xss_cons (xs_for PassesOwn.never rfl (xi_range1 (by rfl) T.z_range (xa_cons (xv 2) xa_nil)) (xg_name 4 sc_law_free.nd)
(xss_cons (xs_set 5 sc_law_free.nd (x_ixA hr.units (xe_lst (xa_cons xe_int (xa_cons xe_int (xa_cons xe_int (xa_cons xe_int (xa_cons (c_lenA (by rfl) T.z_len (xa_cons (xv 1) xa_nil)) (xa_cons (x_add xe_int (c_def D_law_pick hr (xa_cons (xv 0) (xa_cons (c_lenA (by rfl) T.z_len (xa_cons (xv 1) xa_nil)) xa_nil)))) xa_nil))))))) (c_def D_law_pick hr (xa_cons (xv 0) (xa_cons xe_int xa_nil)))))
(xss_one (xs_expr (m_append (xv 3) (xa_cons (c_tuple (by rfl) T.z_tuple (xa_cons (c_sortE hr.units (by rfl) T.z_sorted (xa_cons (x_slice (c_def D_law_mixed hr (xa_cons (xv 0) (xa_cons (xv 1) xa_nil))) xo_none (xo_some (xv 5))) xa_nil)) xa_nil)) xa_nil))))))
(xss_one (xs_ret (xv 3)))))
theorem der_law_shaped (T : Txt mg) {F_law_mixed : DSpec} {F_law_pick : DSpec} (D_law_mixed : TDef P w K mg base 2 "_law_mixed" s_law_mixed ["pool", "things"] F_law_mixed) (D_law_pick : TDef P w K mg base 1 "_law_pick" s_law_pick ["pool", "many"] F_law_pick) (f : Addr) (cdv : Value) (A : Around) (outer : List PySem.Env) (s : Shared) (H : Hp) (E : XK) (hr : Room 2 (A.deeper (envOfC "_law_shaped" (defScope s_law_shaped) s.heap.objs.size f cdv))) :
  XSs (cxOf CX0 P w K mg base N_law_shaped "_law_shaped" (defScope s_law_shaped) f cdv A outer s H E).nox (defBody s_law_shaped) (d_law_shaped F_law_mixed F_law_pick) :=
(xss_cons (xs_set 3 sc_law_shaped.nd (c_def D_law_mixed hr (xa_cons (xv 0) (xa_cons (xv 1) xa_nil))))
(xss_cons (xs_setComp 4 [("place", 6)] rfl sc_law_shaped.nd (xi_range3 (by rfl) T.z_range (xa_cons xe_int (xa_cons (c_lenA (by rfl) T.z_len (xa_cons (xv 3) xa_nil)) (xa_cons xe_int xa_nil)))) (blkOk_by (by kernel_rfl)) (fun _ _ _ _ _ => (xcg_name 6 sc_law_shaped.nd)) (fun _ _ _ _ _ => xts_nil) (fun _ _ _ _ _ => (c_tuple (by rfl) T.z_tuple (xa_cons (c_sortE hr.units (by rfl) T.z_sorted (xa_cons (x_slice (xv 3) (xo_some (xv 6)) (xo_some (x_add (xv 6) xe_int))) xa_nil)) xa_nil))) (sw_true rfl rfl rfl (by decide +kernel)))
(xss_cons (xs_if (t_eq hr.units (xv 2) xe_int)
(xss_one (xs_ret (xv 4)))
xss_nil)
(xss_cons (xs_if (t_eq hr.units (xv 2) xe_int)
(xss_one (xs_ret (xe_comp [("place", 6)] rfl sc_law_shaped.nd (xi_range1 (by rfl) T.z_range (xa_cons (x_sub (c_lenA (by rfl) T.z_len (xa_cons (xv 3) xa_nil)) xe_int) xa_nil)) (blkOk_by (by kernel_rfl)) (fun _ _ _ _ _ => (xcg_name 6 sc_law_shaped.nd)) (fun _ _ _ _ _ => xts_nil) (fun _ _ _ _ _ => (c_tuple (by rfl) T.z_tuple (xa_cons (c_sortE hr.units (by rfl) T.z_sorted (xa_cons (x_slice (xv 3) (xo_some (xv 6)) (xo_some (x_add (xv 6) xe_int))) xa_nil)) xa_nil))))))
xss_nil)
(xss_cons (xs_if (t_eq hr.units (xv 2) xe_int)
(xss_one (xs_ret (xe_comp [("left", 7)] rfl sc_law_shaped.nd (xi_seq (xv 1)) (blkOk_by (by kernel_rfl)) (fun _ _ _ _ _ => (xcg_name 7 sc_law_shaped.nd)) (fun _ _ _ _ _ => xts_nil) (fun _ _ _ _ _ => (c_tuple (by rfl) T.z_tuple (xa_cons (c_sortE hr.units (by rfl) T.z_sorted (xa_cons (xe_comp [("name", 8)] rfl sc_law_shaped.nd (xi_seq (xv 1)) (blkOk_by (by kernel_rfl)) (fun _ _ _ _ _ => (xcg_name 8 sc_law_shaped.nd)) (fun _ _ _ _ _ => (xts_one (t_ne hr.units (xv 8) (xv 7)))) (fun _ _ _ _ _ => (xv 8))) xa_nil)) xa_nil))))))
xss_nil)
(xss_cons (xs_if (t_eq hr.units (xv 2) xe_int)
(xss_one (xs_ret (x_add (xe_comp [("name", 8)] rfl sc_law_shaped.nd (xi_seq (x_slice (xv 3) (xo_some xe_int) xo_none)) (blkOk_by (by kernel_rfl)) (fun _ _ _ _ _ => (xcg_name 8 sc_law_shaped.nd)) (fun _ _ _ _ _ => xts_nil) (fun _ _ _ _ _ => (c_tuple (by rfl) T.z_tuple (xa_cons (c_sortE hr.units (by rfl) T.z_sorted (xa_cons (xe_lst (xa_cons (x_ixA hr.units (xv 3) xe_int) (xa_cons (xv 8) xa_nil))) xa_nil)) xa_nil)))) (xe_lst (xa_cons (c_tuple (by rfl) T.z_tuple (xa_cons (c_sortE hr.units (by rfl) T.z_sorted (xa_cons (x_slice (xv 3) (xo_some xe_int) xo_none) xa_nil)) xa_nil)) xa_nil)))))
xss_nil)
(xss_cons (xs_set 5 sc_law_shaped.nd (x_add xe_int (c_def D_law_pick hr (xa_cons (xv 0) (xa_cons (c_lenA (by rfl) T.z_len (xa_cons (xv 1) xa_nil)) xa_nil)))))
(xss_one (xs_ret (xe_comp [("place", 6)] rfl sc_law_shaped.nd (xi_range1 (by rfl) T.z_range (xa_cons (c_lenA (by rfl) T.z_len (xa_cons (xv 3) xa_nil)) xa_nil)) (blkOk_by (by kernel_rfl)) (fun _ _ _ _ _ => (xcg_name 6 sc_law_shaped.nd)) (fun _ _ _ _ _ => xts_nil) (fun _ _ _ _ _ => (c_tuple (by rfl) T.z_tuple (xa_cons (c_sortSetK rfl hr.units80 (by rfl) T.z_sorted (by rfl) T.z_set (xa_cons (xe_lst (xa_cons (x_ixA hr.units (xv 3) (xv 6)) (xa_cons (x_ixA hr.units (xv 3) (x_mod (x_add (xv 6) (xv 5)) (c_lenA (by rfl) T.z_len (xa_cons (xv 3) xa_nil)))) (xa_cons (x_ixA hr.units (xv 3) (x_mod (x_add (xv 6) xe_int) (c_lenA (by rfl) T.z_len (xa_cons (xv 3) xa_nil)))) xa_nil)))) xa_nil)) xa_nil)))))))))))))
theorem der_law_forty (T : Txt mg) {F_law_free : DSpec} {F_law_mixed : DSpec} {F_law_pick : DSpec} (D_law_free : TDef P w K mg base 3 "_law_free" s_law_free ["pool", "names", "many"] F_law_free) (D_law_mixed : TDef P w K mg base 2 "_law_mixed" s_law_mixed ["pool", "things"] F_law_mixed) (D_law_pick : TDef P w K mg base 1 "_law_pick" s_law_pick ["pool", "many"] F_law_pick) (f : Addr) (cdv : Value) (A : Around) (outer : List PySem.Env) (s : Shared) (H : Hp) (E : XK) (hr : Room 3 (A.deeper (envOfC "_law_forty" (defScope s_law_forty) s.heap.objs.size f cdv))) :
  XSs (cxOf CX0 P w K mg base N_law_forty "_law_forty" (defScope s_law_forty) f cdv A outer s H E).nox (defBody s_law_forty) (d_law_forty F_law_free F_law_mixed F_law_pick) :=
(xss_cons (xs_set 2 sc_law_forty.nd (xe_lst xa_nil))
(xss_cons (xs_for PassesOwn.never rfl (xi_seq (xv 1)) (xg_name 3 sc_law_forty.nd)
(xss_one (xs_for PassesOwn.never rfl (xi_seq (xv 1)) (xg_name 4 sc_law_forty.nd)
(xss_one (xs_if (t_lt (xv 3) (xv 4))
(xss_one (xs_expr (m_append (xv 2) (xa_cons (xe_tup (xa_cons (xv 3) (xa_cons (xv 4) xa_nil))) xa_nil))))
xss_nil)))))
(xss_cons (xs_set 5 sc_law_forty.nd (c_def D_law_free hr (xa_cons (xv 0) (xa_cons (xv 1) (xa_cons xe_int xa_nil)))))
(xss_one (xs_ret (x_slice (x_add (x_slice (c_def D_law_mixed hr (xa_cons (xv 0) (xa_cons (xv 2) xa_nil))) xo_none (xo_some (x_add xe_int (c_def D_law_pick hr (xa_cons (xv 0) (xa_cons xe_int xa_nil)))))) (xe_comp [("one", 3)] rfl sc_law_forty.nd (xi_seq (xv 5)) (blkOk_by (by kernel_rfl)) (fun _ _ _ _ _ => (xcg_name 3 sc_law_forty.nd)) (fun _ _ _ _ _ => (xts_one (t_gt (c_lenA (by rfl) T.z_len (xa_cons (xv 3) xa_nil)) xe_int))) (fun _ _ _ _ _ => (xv 3)))) xo_none (xo_some xe_int)))))))
theorem der_law_family (T : Txt mg) {F_law_pick : DSpec} {F_law_mixed : DSpec} {F_law_names : DSpec} {F_law_forty : DSpec} {F_law_free : DSpec} {F_law_shaped : DSpec} (D_law_pick : TDef P w K mg base 1 "_law_pick" s_law_pick ["pool", "many"] F_law_pick) (D_law_mixed : TDef P w K mg base 2 "_law_mixed" s_law_mixed ["pool", "things"] F_law_mixed) (D_law_names : TDef P w K mg base 2 "_law_names" s_law_names ["pool", "many"] F_law_names) (D_law_forty : TDef P w K mg base 4 "_law_forty" s_law_forty ["pool", "names"] F_law_forty) (D_law_free : TDef P w K mg base 3 "_law_free" s_law_free ["pool", "names", "many"] F_law_free) (D_law_shaped : TDef P w K mg base 3 "_law_shaped" s_law_shaped ["pool", "names", "way"] F_law_shaped) (f : Addr) (cdv : Value) (A : Around) (outer : List PySem.Env) (s : Shared) (H : Hp) (E : XK) (hr : Room 4 (A.deeper (envOfC "_law_family" (defScope s_law_family) s.heap.objs.size f cdv))) :
  XSs (cxOf CX0 P w K mg base N_law_family "_law_family" (defScope s_law_family) f cdv A outer s H E).nox (defBody s_law_family) (d_law_family F_law_pick F_law_mixed F_law_names F_law_forty F_law_free F_law_shaped) :=
(xss_cons (xs_set 1 sc_law_family.nd (c_def D_law_pick hr (xa_cons (xv 0) (xa_cons xe_int xa_nil))))
(xss_cons (xs_set 2 sc_law_family.nd (c_def D_law_mixed hr (xa_cons (xv 0) (xa_cons (c_def D_law_names hr (xa_cons (xv 0) (xa_cons (xe_if (t_eq hr.units (xv 1) xe_int) xe_int (x_add xe_int (c_def D_law_pick hr (xa_cons (xv 0) (xa_cons xe_int xa_nil))))) xa_nil))) xa_nil))))
(xss_cons (xs_if (t_eq hr.units (xv 1) xe_int)
(xss_cons (xs_set 3 sc_law_family.nd (c_def D_law_forty hr (xa_cons (xv 0) (xa_cons (xv 2) xa_nil))))
(xss_one (xs_set 3 sc_law_family.nd (x_add (xv 3) (c_def D_law_free hr (xa_cons (xv 0) (xa_cons (xv 2) (xa_cons (x_sub xe_int (c_lenA (by rfl) T.z_len (xa_cons (xv 3) xa_nil))) xa_nil))))))))
(xss_one (xs_if (t_lt (xv 1) xe_int)
(xss_one (xs_set 3 sc_law_family.nd (c_def D_law_free hr (xa_cons (xv 0) (xa_cons (xv 2) (xa_cons (c_def D_law_pick hr (xa_cons (xv 0) (xa_cons xe_int xa_nil))) xa_nil))))))
(xss_one (xs_set 3 sc_law_family.nd (x_slice (c_def D_law_shaped hr (xa_cons (xv 0) (xa_cons (xv 2) (xa_cons (x_sub (xv 1) xe_int) xa_nil)))) xo_none (xo_some xe_int)))))))
(xss_cons (xs_if (XW.xt (xw_and (t_lt (xv 1) xe_int) (xw_and1 (t_eq hr.units (c_def D_law_pick hr (xa_cons (xv 0) (xa_cons xe_int xa_nil))) xe_int))))
(xss_one (xs_set 3 sc_law_family.nd (x_add (xv 3) (x_slice (c_def D_law_mixed hr (xa_cons (xv 0) (xa_cons (xv 3) xa_nil))) xo_none (xo_some xe_int)))))
xss_nil)
(xss_one (xs_ret (c_tuple (by rfl) T.z_tuple (xa_cons (c_def D_law_mixed hr (xa_cons (xv 0) (xa_cons (xv 3) xa_nil))) xa_nil))))))))
theorem der_law_prices (T : Txt mg) {F_law_pick : DSpec} {F_law_mixed : DSpec} (D_law_pick : TDef P w K mg base 1 "_law_pick" s_law_pick ["pool", "many"] F_law_pick) (D_law_mixed : TDef P w K mg base 2 "_law_mixed" s_law_mixed ["pool", "things"] F_law_mixed) (f : Addr) (cdv : Value) (A : Around) (outer : List PySem.Env) (s : Shared) (H : Hp) (E : XK) (hr : Room 2 (A.deeper (envOfC "_law_prices" (defScope s_law_prices) s.heap.objs.size f cdv))) :
  XSs (cxOf CX0 P w K mg base N_law_prices "_law_prices" (defScope s_law_prices) f cdv A outer s H E).nox (defBody s_law_prices) (d_law_prices F_law_pick F_law_mixed) :=
(xss_cons (xs_set 2 sc_law_prices.nd (xe_lst xa_nil))
(xss_cons (xs_for PassesOwn.never rfl (xi_seq (xv 1)) (xg_name 3 sc_law_prices.nd)
(xss_one (xs_expr (m_extend (xv 2) (xa_cons (xe_comp [("name", 6)] rfl sc_law_prices.nd (xi_seq (xv 3)) (blkOk_by (by kernel_rfl)) (fun _ _ _ _ _ => (xcg_name 6 sc_law_prices.nd)) (fun _ _ _ _ _ => (xts_one (t_notinA hr.units (xv 6) (xv 2)))) (fun _ _ _ _ _ => (xv 6))) xa_nil)))))
(xss_cons (xs_set 4 sc_law_prices.nd (c_def D_law_pick hr (xa_cons (xv 0) (xa_cons xe_int xa_nil))))
(xss_cons (xs_set 5 sc_law_prices.nd (xe_lst xa_nil))
(xss_cons (xs_for PassesOwn.never rfl (xi_seq (c_def D_law_mixed hr (xa_cons (xv 0) (xa_cons (xv 2) xa_nil)))) (xg_name 6 sc_law_prices.nd)
(xss_one (xs_expr (m_append (xv 5) (xa_cons (xe_tup (xa_cons (xv 6) (xa_cons (x_ixA hr.units (xe_lst (xa_cons xe_int (xa_cons (x_add xe_int (c_def D_law_pick hr (xa_cons (xv 0) (xa_cons xe_int xa_nil)))) (xa_cons (x_add xe_int (c_def D_law_pick hr (xa_cons (xv 0) (xa_cons xe_int xa_nil)))) (xa_cons (x_sub (x_pow xe_int xe_int) (c_def D_law_pick hr (xa_cons (xv 0) (xa_cons xe_int xa_nil)))) xa_nil))))) (xv 4)) xa_nil))) xa_nil)))))
(xss_one (xs_ret (c_tupF (by rfl) T.z_tuple (xa_cons (xv 5) xa_nil)))))))))
theorem der_law_told_sets (T : Txt mg) (f : Addr) (cdv : Value) (A : Around) (outer : List PySem.Env) (s : Shared) (H : Hp) (E : XK) (hr : Room 0 (A.deeper (envOfC "_law_told_sets" (defScope s_law_told_sets) s.heap.objs.size f cdv))) :
  XSs (cxOf CX0 P w K mg base N_law_told_sets "_law_told_sets" (defScope s_law_told_sets) f cdv A outer s H E).nox (defBody s_law_told_sets) (d_law_told_sets) :=
(xss_cons (xs_if (XW.xt (xw_or (xt_not (xt_val (c_isi (by rfl) T.z_isinstance (xa_cons (xv 0) (xa_cons (xe_ty (n := "tuple") (by rfl) T.z_tuple (by decide +kernel)) xa_nil))))) (xw_or1 (t_ne hr.units (c_lenA (by rfl) T.z_len (xa_cons (xv 0) xa_nil)) (c_lenA (by rfl) T.z_len (xa_cons (xv 1) xa_nil))))))
(xss_one (xs_ret xe_bl))
xss_nil)
(xss_cons (xs_for PassesOwn.never rfl (xi_zip (by rfl) T.z_zip (xa_cons (xv 0) (xa_cons (xv 1) xa_nil))) (xg_tup rfl (xgs_cons (xg_name 2 sc_law_told_sets.nd) (xgs_cons (xg_name 3 sc_law_told_sets.nd) xgs_nil)))
(xss_cons (xs_if (XW.xt (xw_or (xt_not (xt_val (c_isi (by rfl) T.z_isinstance (xa_cons (xv 2) (xa_cons (xe_ty (n := "tuple") (by rfl) T.z_tuple (by decide +kernel)) xa_nil))))) (xw_or1 (t_ne hr.units (c_lenA (by rfl) T.z_len (xa_cons (xv 2) xa_nil)) (c_lenA (by rfl) T.z_len (xa_cons (xv 3) xa_nil))))))
(xss_one (xs_ret xe_bl))
xss_nil)
(xss_one (xs_if (xt_not (xt_val (c_all rfl (by rfl) T.z_all (xa_cons (xe_compT [("name", 4), ("wanted", 5)] rfl sc_law_told_sets.nd (xi_zip (by rfl) T.z_zip (xa_cons (xv 2) (xa_cons (xv 3) xa_nil))) (blkOk_by (by kernel_rfl)) (fun _ _ _ _ _ => (xcgs_cons (xcg_name 4 sc_law_told_sets.nd) (xcgs_cons (xcg_name 5 sc_law_told_sets.nd) xcgs_nil))) (fun _ _ _ _ _ => xts_nil) (fun _ _ _ _ _ => (xe_and (c_isi (by rfl) T.z_isinstance (xa_cons (xv 4) (xa_cons (xe_ty (n := "str") (by rfl) T.z_str (by decide +kernel)) xa_nil))) (xe_one (x_eq hr.units (xv 4) (xv 5)))))) xa_nil))))
(xss_one (xs_ret xe_bl))
xss_nil))))
(xss_one (xs_ret xe_bl))))
theorem der_law_told_cheapest (T : Txt mg) {F_law_told_sets : DSpec} (D_law_told_sets : TDef P w K mg base 1 "_law_told_sets" s_law_told_sets ["told", "due"] F_law_told_sets) (f : Addr) (cdv : Value) (A : Around) (outer : List PySem.Env) (s : Shared) (H : Hp) (E : XK) (hr : Room 1 (A.deeper (envOfC "_law_told_cheapest" (defScope s_law_told_cheapest) s.heap.objs.size f cdv))) :
  XSs (cxOf CX0 P w K mg base N_law_told_cheapest "_law_told_cheapest" (defScope s_law_told_cheapest) f cdv A outer s H E).nox (defBody s_law_told_cheapest) (d_law_told_cheapest F_law_told_sets) :=
(xss_cons (xs_if (t_is (xv 1) xe_non)
(xss_one (xs_ret (x_is (xv 0) xe_non)))
xss_nil)
(xss_cons (xs_if (XW.xt (xw_or (xt_not (xt_val (c_isi (by rfl) T.z_isinstance (xa_cons (xv 0) (xa_cons (xe_ty (n := "tuple") (by rfl) T.z_tuple (by decide +kernel)) xa_nil))))) (xw_or (t_ne hr.units (c_lenA (by rfl) T.z_len (xa_cons (xv 0) xa_nil)) xe_int) (xw_or (xt_not (xt_val (c_isi (by rfl) T.z_isinstance (xa_cons (x_ixA hr.units (xv 0) xe_int) (xa_cons (xe_ty (n := "int") (by rfl) T.z_int (by decide +kernel)) xa_nil))))) (xw_or1 (xt_val (c_isi (by rfl) T.z_isinstance (xa_cons (x_ixA hr.units (xv 0) xe_int) (xa_cons (xe_ty (n := "bool") (by rfl) T.z_bool (by decide +kernel)) xa_nil)))))))))
(xss_one (xs_ret xe_bl))
xss_nil)
(xss_one (xs_ret (xe_and (x_eq hr.units (x_ixA hr.units (xv 0) xe_int) (x_ixA hr.units (xv 1) xe_int)) (xe_one (c_def D_law_told_sets hr (xa_cons (xe_tup (xa_cons (x_ixA hr.units (xv 0) xe_int) xa_nil)) (xa_cons (xe_tup (xa_cons (x_ixA hr.units (xv 1) xe_int) xa_nil)) xa_nil)))))))))
theorem der_law_asked (T : Txt mg) {F_law_least_sets : DSpec} {F_law_prices : DSpec} {F_law_told_sets : DSpec} {F_hitting_sets : DSpec} {F_law_told_cheapest : DSpec} {F_law_cheapest : DSpec} {F_cheapest_hitting : DSpec} (D_law_least_sets : TDef P w K mg base 2 "_law_least_sets" s_law_least_sets ["family"] F_law_least_sets) (D_law_prices : TDef P w K mg base 3 "_law_prices" s_law_prices ["pool", "family"] F_law_prices) (D_law_told_sets : TDef P w K mg base 1 "_law_told_sets" s_law_told_sets ["told", "due"] F_law_told_sets) (D_hitting_sets : TDef P w K mg base 1 "hitting_sets" s_hitting_sets ["family"] F_hitting_sets) (D_law_told_cheapest : TDef P w K mg base 2 "_law_told_cheapest" s_law_told_cheapest ["told", "due"] F_law_told_cheapest) (D_law_cheapest : TDef P w K mg base 1 "_law_cheapest" s_law_cheapest ["sets", "prices"] F_law_cheapest) (D_cheapest_hitting : TDef P w K mg base 2 "cheapest_hitting" s_cheapest_hitting ["family", "prices"] F_cheapest_hitting) (f : Addr) (cdv : Value) (A : Around) (outer : List PySem.Env) (s : Shared) (H : Hp) (E : XK) (hr : Room 3 (A.deeper (envOfC "_law_asked" (defScope s_law_asked) s.heap.objs.size f cdv))) :
  XSs (cxOf CX0 P w K mg base N_law_asked "_law_asked" (defScope s_law_asked) f cdv A outer s H E).nox (defBody s_law_asked) (d_law_asked F_law_least_sets F_law_prices F_law_told_sets F_hitting_sets F_law_told_cheapest F_law_cheapest F_cheapest_hitting) :=
(xss_cons (xs_set 2 sc_law_asked.nd (c_def D_law_least_sets hr (xa_cons (xv 1) xa_nil)))
(xss_cons (xs_set 3 sc_law_asked.nd (c_def D_law_prices hr (xa_cons (xv 0) (xa_cons (xv 1) xa_nil))))
(xss_cons (xs_if (XW.xt (xw_or (xt_not (xt_val (c_def D_law_told_sets hr (xa_cons (c_def D_hitting_sets hr (xa_cons (xv 1) xa_nil)) (xa_cons (xv 2) xa_nil))))) (xw_or1 (xt_not (xt_val (c_def D_law_told_cheapest hr (xa_cons (c_def D_cheapest_hitting hr (xa_cons (xv 1) (xa_cons (xv 3) xa_nil))) (xa_cons (c_def D_law_cheapest hr (xa_cons (xv 2) (xa_cons (xv 3) xa_nil))) xa_nil))))))))
(xss_one (xs_ret xe_bl))
xss_nil)
(xss_cons (xs_set 4 sc_law_asked.nd (c_tupF (by rfl) T.z_tuple (xa_cons (xe_compT [("name", 6), ("price", 7)] rfl sc_law_asked.nd (xi_seqF (xv 3)) (blkOk_by (by kernel_rfl)) (fun _ _ _ _ _ => (xcgs_cons (xcg_name 6 sc_law_asked.nd) (xcgs_cons (xcg_name 7 sc_law_asked.nd) xcgs_nil))) (fun _ _ _ _ _ => xts_nil) (fun _ _ _ _ _ => (xe_tup (xa_cons (xv 6) (xa_cons (xe_if (t_gt (xv 7) xe_int) xe_int xe_int) xa_nil))))) xa_nil)))
(xss_cons (xs_if (xt_not (xt_val (c_def D_law_told_cheapest hr (xa_cons (c_def D_cheapest_hitting hr (xa_cons (xv 1) (xa_cons (xv 4) xa_nil))) (xa_cons (c_def D_law_cheapest hr (xa_cons (xv 2) (xa_cons (xv 4) xa_nil))) xa_nil)))))
(xss_one (xs_ret xe_bl))
xss_nil)
(xss_cons (xs_if (XW.xt (xw_or (t_gt (c_lenA (by rfl) T.z_len (xa_cons (xv 2) xa_nil)) xe_int) (xw_or1 (xt_not (xt_val (xv 2))))))
(xss_one (xs_ret xe_bl))
xss_nil)
(xss_cons (xs_setComp 5 [("one", 8)] rfl sc_law_asked.nd (xi_seq (xv 1)) (blkOk_by (by kernel_rfl)) (fun _ _ _ _ _ => (xcg_name 8 sc_law_asked.nd)) (fun _ _ _ _ _ => (xts_one (xt_not (xt_val (c_any rfl (by rfl) T.z_any (xa_cons (xe_comp [("less", 9)] rfl sc_law_asked.nd (xi_seq (xv 1)) (blkOk_by (by kernel_rfl)) (fun _ _ _ _ _ => (xcg_name 9 sc_law_asked.nd)) (fun _ _ _ _ _ => xts_nil) (fun _ _ _ _ _ => (xe_and (x_lt (c_lenA (by rfl) T.z_len (xa_cons (xv 9) xa_nil)) (c_lenA (by rfl) T.z_len (xa_cons (xv 8) xa_nil))) (xe_one (c_all rfl (by rfl) T.z_all (xa_cons (xe_comp [("name", 6)] rfl sc_law_asked.nd (xi_seq (xv 9)) (blkOk_by (by kernel_rfl)) (fun _ _ _ _ _ => (xcg_name 6 sc_law_asked.nd)) (fun _ _ _ _ _ => xts_nil) (fun _ _ _ _ _ => (x_inA hr.units (xv 6) (xv 8)))) xa_nil)))))) xa_nil)))))) (fun _ _ _ _ _ => (xv 8)) (sw_true rfl rfl rfl (by decide +kernel)))
(xss_one (xs_ret (c_def D_law_told_sets hr (xa_cons (c_def D_hitting_sets hr (xa_cons (c_tuple (by rfl) T.z_tuple (xa_cons (xv 2) xa_nil)) xa_nil)) (xa_cons (c_sortSet rfl hr.units80 (by rfl) T.z_sorted (by rfl) T.z_set (xa_cons (xv 5) xa_nil)) xa_nil))))))))))))
theorem der_law (T : Txt mg) {F_law_pool : DSpec} {F_law_family : DSpec} {F_law_asked : DSpec} {F_law_mixed : DSpec} {F_law_prices : DSpec} {F_law_told_sets : DSpec} {F_hitting_sets : DSpec} {F_cheapest_hitting : DSpec} {F_law_least_sets : DSpec} {F_law_told_cheapest : DSpec} (D_law_pool : TDef P w K mg base 1 "_law_pool" s_law_pool ["script", "many"] F_law_pool) (D_law_family : TDef P w K mg base 5 "_law_family" s_law_family ["pool"] F_law_family) (D_law_asked : TDef P w K mg base 4 "_law_asked" s_law_asked ["pool", "family"] F_law_asked) (D_law_mixed : TDef P w K mg base 2 "_law_mixed" s_law_mixed ["pool", "things"] F_law_mixed) (D_law_prices : TDef P w K mg base 3 "_law_prices" s_law_prices ["pool", "family"] F_law_prices) (D_law_told_sets : TDef P w K mg base 1 "_law_told_sets" s_law_told_sets ["told", "due"] F_law_told_sets) (D_hitting_sets : TDef P w K mg base 1 "hitting_sets" s_hitting_sets ["family"] F_hitting_sets) (D_cheapest_hitting : TDef P w K mg base 2 "cheapest_hitting" s_cheapest_hitting ["family", "prices"] F_cheapest_hitting) (D_law_least_sets : TDef P w K mg base 2 "_law_least_sets" s_law_least_sets ["family"] F_law_least_sets) (D_law_told_cheapest : TDef P w K mg base 2 "_law_told_cheapest" s_law_told_cheapest ["told", "due"] F_law_told_cheapest) (f : Addr) (cdv : Value) (A : Around) (outer : List PySem.Env) (s : Shared) (H : Hp) (E : XK) (hr : Room 5 (A.deeper (envOfC "law" (defScope s_law) s.heap.objs.size f cdv))) :
  XSs (cxOf CX0 P w K mg base N_law "law" (defScope s_law) f cdv A outer s H E).nox (defBody s_law) (d_law F_law_pool F_law_family F_law_asked F_law_mixed F_law_prices F_law_told_sets F_hitting_sets F_cheapest_hitting F_law_least_sets F_law_told_cheapest) :=
(xss_cons (xs_set 1 sc_law.nd (c_def D_law_pool hr (xa_cons (xv 0) (xa_cons xe_int xa_nil))))
(xss_cons (xs_set 2 sc_law.nd (c_def D_law_family hr (xa_cons (xv 1) xa_nil)))
(xss_cons (xs_if (xt_not (xt_val (c_def D_law_asked hr (xa_cons (xv 1) (xa_cons (xv 2) xa_nil)))))
(xss_one (xs_ret xe_bl))
xss_nil)
(xss_cons (xs_set 3 sc_law.nd (c_tuple (by rfl) T.z_tuple (xa_cons (c_def D_law_mixed hr (xa_cons (xv 1) (xa_cons (x_add (c_listA rfl (by rfl) T.z_list (xa_cons (x_slice (xv 2) xo_none (xo_some xe_int)) xa_nil)) (xe_lst (xa_cons (xe_tup xa_nil) xa_nil))) xa_nil))) xa_nil)))
(xss_cons (xs_set 4 sc_law.nd (c_def D_law_prices hr (xa_cons (xv 1) (xa_cons (xv 3) xa_nil))))
(xss_cons (xs_if (XW.xt (xw_or (xt_not (xt_val (c_def D_law_told_sets hr (xa_cons (c_def D_hitting_sets hr (xa_cons (xv 3) xa_nil)) (xa_cons (xe_tup xa_nil) xa_nil))))) (xw_or1 (t_isnot (c_def D_cheapest_hitting hr (xa_cons (xv 3) (xa_cons (xv 4) xa_nil))) xe_non))))
(xss_one (xs_ret xe_bl))
xss_nil)
(xss_cons (xs_set 5 sc_law.nd (c_tuple (by rfl) T.z_tuple (xa_cons (c_def D_law_mixed hr (xa_cons (xv 1) (xa_cons (xv 2) xa_nil))) xa_nil)))
(xss_cons (xs_if (xt_not (xt_val (c_def D_law_told_sets hr (xa_cons (c_def D_hitting_sets hr (xa_cons (xv 5) xa_nil)) (xa_cons (c_def D_law_least_sets hr (xa_cons (xv 2) xa_nil)) xa_nil)))))
(xss_one (xs_ret xe_bl))
xss_nil)
(xss_one (xs_ret (xe_and (c_def D_law_told_sets hr (xa_cons (c_def D_hitting_sets hr (xa_cons (xe_tup xa_nil) xa_nil)) (xa_cons (xe_tup (xa_cons (xe_tup xa_nil) xa_nil)) xa_nil))) (xe_one (c_def D_law_told_cheapest hr (xa_cons (c_def D_cheapest_hitting hr (xa_cons (xe_tup xa_nil) (xa_cons (xe_tup xa_nil) xa_nil))) (xa_cons (xe_tup (xa_cons xe_int (xa_cons (xe_tup xa_nil) xa_nil))) xa_nil)))))))))))))))
end
end K66

/-! K66M: least hitting sets, in plain Lean. -/
namespace K66
open PySem PySem.Spec PyProof.Rows L2 DL
/-! ### texts in order -/
theorem strLe_trans {a b c : Str} (h : strLe a b = true) (h' : strLe b c = true) : strLe a c = true := by
  unfold strLe at *
  rw [leW_kle] at *
  exact KeyOrd.kle_trans h h'
theorem strLe_total (a b : Str) : (strLe a b || strLe b a) = true := by
  unfold strLe
  rw [Bool.or_eq_true, leW_kle, leW_kle]
  unfold KeyOrd.kle
  cases e : (listOrd itemOrd).blt (tk (.str b)) (tk (.str a)) with
  | false => exact .inl rfl
  | true => exact .inr (KeyOrd.klt_asymm e)
theorem strLe_anti {a b : Str} (h : strLe a b = true) (h' : strLe b a = true) : a = b := by
  unfold strLe at *
  rw [leW_kle] at *
  exact str_inj a b (KeyOrd.kle_antisymm h h')
theorem tupLe_trans {a b c : List Str} (h : tupLe a b = true) (h' : tupLe b c = true) : tupLe a c = true := by
  unfold tupLe at *
  rw [leW_kle] at *
  exact KeyOrd.kle_trans h h'
theorem tupLe_total (a b : List Str) : (tupLe a b || tupLe b a) = true := by
  unfold tupLe
  rw [Bool.or_eq_true, leW_kle, leW_kle]
  unfold KeyOrd.kle
  cases e : (listOrd itemOrd).blt (tk (tupS b)) (tk (tupS a)) with
  | false => exact .inl rfl
  | true => exact .inr (KeyOrd.klt_asymm e)
theorem tupLe_anti {a b : List Str} (h : tupLe a b = true) (h' : tupLe b a = true) : a = b := by
  unfold tupLe at *
  rw [leW_kle] at *
  exact tupS_inj a b (KeyOrd.kle_antisymm h h')
/-- ascending, none twice -/
abbrev Asc (c : List Str) : Prop := c.Pairwise fun a b => strLe a b = true ∧ a ≠ b
theorem Asc.nodup {c : List Str} (h : Asc c) : c.Nodup := h.imp fun q => q.2
theorem asc_ext {c d : List Str} (hc : Asc c) (hd : Asc d) (h : ∀ x, x ∈ c ↔ x ∈ d) : c = d :=
  List.Perm.eq_of_pairwise (le := fun a b => strLe a b = true) (fun _ _ _ _ h1 h2 => strLe_anti h1 h2) (hc.imp fun q => q.1) (hd.imp fun q => q.1) ((List.perm_ext_iff_of_nodup hc.nodup hd.nodup).mpr h)
theorem asc_sort {xs : List Str} (h : xs.Nodup) : Asc (xs.mergeSort strLe) := by
  have s := List.pairwise_mergeSort (le := strLe) (fun _ _ _ => strLe_trans) strLe_total xs
  have n : (xs.mergeSort strLe).Nodup := (List.mergeSort_perm xs strLe).nodup_iff.mpr h
  exact s.imp₂ (fun _ _ h1 h2 => ⟨h1, h2⟩) n
theorem asc_filter {xs : List Str} (h : Asc xs) (p : Str → Bool) : Asc (xs.filter p) := List.Pairwise.filter p h
theorem asc_sub {xs ys : List Str} (s : ys.Sublist xs) (h : Asc xs) : Asc ys := List.Pairwise.sublist s h
/-! ### hitting sets -/
abbrev Fam := List (List Str)
def Hit (fam : Fam) (c : List Str) : Prop := ∀ m ∈ fam, ∃ x ∈ m, x ∈ c
def Min (fam : Fam) (c : List Str) : Prop := Asc c ∧ Hit fam c ∧ ∀ d : List Str, (∀ x ∈ d, x ∈ c) → Hit fam d → ∀ x ∈ c, x ∈ d
structure IsLeast (fam : Fam) (L : Fam) : Prop where
  nd : L.Nodup
  mem : ∀ c, c ∈ L ↔ Min fam c
  so : L.Pairwise fun a b => tupLe a b = true
theorem IsLeast.uniq {fam L L' : Fam} (h : IsLeast fam L) (h' : IsLeast fam L') : L = L' :=
  List.Perm.eq_of_pairwise (le := fun a b => tupLe a b = true) (fun _ _ _ _ h1 h2 => tupLe_anti h1 h2) h.so h'.so ((List.perm_ext_iff_of_nodup h.nd h'.nd).mpr fun c => (h.mem c).trans (h'.mem c).symm)
theorem hit_congr {fam fam' : Fam} (h : ∀ m, m ∈ fam ↔ m ∈ fam') (c : List Str) : Hit fam c ↔ Hit fam' c := ⟨fun k m hm => k m ((h m).mpr hm), fun k m hm => k m ((h m).mp hm)⟩
theorem min_congr {fam fam' : Fam} (h : ∀ m, m ∈ fam ↔ m ∈ fam') (c : List Str) : Min fam c ↔ Min fam' c := by
  unfold Min
  rw [hit_congr h c]
  simp only [hit_congr h]
theorem IsLeast.congr {fam fam' L : Fam} (h : ∀ m, m ∈ fam ↔ m ∈ fam') (k : IsLeast fam L) : IsLeast fam' L := ⟨k.nd, fun c => (k.mem c).trans (min_congr h c), k.so⟩
theorem isLeast_sort {fam L : Fam} (nd : L.Nodup) (mem : ∀ c, c ∈ L ↔ Min fam c) : IsLeast fam (L.mergeSort tupLe) :=
  ⟨(List.mergeSort_perm L tupLe).nodup_iff.mpr nd, fun c => (List.mem_mergeSort).trans (mem c), List.pairwise_mergeSort (le := tupLe) (fun _ _ _ => tupLe_trans) tupLe_total L⟩
/-! ### going through all sets, the lesser ones first -/
section
variable {α : Type}
def step (hit : α → Bool) (sub : α → α → Bool) (acc : List α) (c : α) : List α := if (hit c && !acc.any fun d => sub d c) = true then acc ++ [c] else acc
def scan (hit : α → Bool) (sub : α → α → Bool) (l : List α) : List α := l.foldl (step hit sub) []
theorem scan_snoc (hit : α → Bool) (sub : α → α → Bool) (l : List α) (c : α) : scan hit sub (l ++ [c]) = step hit sub (scan hit sub l) c := by
  unfold scan
  rw [List.foldl_append]
  rfl
def Low (hit : α → Bool) (sub : α → α → Bool) (U : List α) (c : α) : Prop := hit c = true ∧ ∀ d ∈ U, hit d = true → sub d c = true → d = c
/-- a lesser set stands before -/
def Ordered (sub : α → α → Bool) (U : List α) : Prop := ∀ pre c post, U = pre ++ c :: post → ∀ d ∈ U, sub d c = true → d = c ∨ d ∈ pre
theorem descend {hit : α → Bool} {sub : α → α → Bool} {U : List α} (rf : ∀ c, sub c c = true) (tr : ∀ a b c, sub a b = true → sub b c = true → sub a c = true) (or : Ordered sub U) :
    ∀ (n : Nat) (pre post : List α) (d : α), pre.length = n → U = pre ++ d :: post → hit d = true → ∃ e ∈ U, Low hit sub U e ∧ sub e d = true ∧ (e = d ∨ e ∈ pre) := by
  intro n
  induction n using Nat.strongRecOn with
  | _ n ih =>
    intro pre post d hn hU hd
    by_cases h : ∀ e ∈ U, hit e = true → sub e d = true → e = d
    · exact ⟨d, by rw [hU]; simp, ⟨hd, h⟩, rf d, .inl rfl⟩
    · obtain ⟨e, h⟩ := Classical.not_forall.mp h
      obtain ⟨he, h⟩ := Classical.not_imp.mp h
      obtain ⟨hh, h⟩ := Classical.not_imp.mp h
      obtain ⟨hs, hne⟩ := Classical.not_imp.mp h
      rcases or pre d post hU e he hs with rfl | hp
      · exact absurd rfl hne
      · obtain ⟨p1, p2, rfl⟩ := List.append_of_mem hp
        obtain ⟨x, hx, lx, sx, px⟩ := ih p1.length (by rw [← hn]; simp) p1 (p2 ++ d :: post) e rfl (by rw [hU]; simp) hh
        refine ⟨x, hx, lx, tr _ _ _ sx hs, .inr ?_⟩
        rcases px with rfl | px
        · exact hp
        · exact List.mem_append_left _ px
theorem scan_pre {hit : α → Bool} {sub : α → α → Bool} {U : List α} (nd : U.Nodup) (rf : ∀ c, sub c c = true) (tr : ∀ a b c, sub a b = true → sub b c = true → sub a c = true) (or : Ordered sub U) :
    ∀ (n : Nat) (l r : List α), l.length = n → U = l ++ r → (scan hit sub l).Nodup ∧ ∀ c, c ∈ scan hit sub l ↔ c ∈ l ∧ Low hit sub U c := by
  intro n
  induction n with
  | zero =>
    intro l r hn hU
    have : l = [] := List.eq_nil_of_length_eq_zero hn
    subst this
    exact ⟨List.nodup_nil, fun c => ⟨(fun h => nomatch h), (fun h => nomatch h.1)⟩⟩
  | succ n ih =>
    intro l r hn hU
    have hne : l ≠ [] := fun e => by rw [e] at hn; cases hn
    obtain ⟨l0, c, rfl⟩ : ∃ l0 c, l = l0 ++ [c] := ⟨_, _, (List.dropLast_concat_getLast hne).symm⟩
    have hU2 : U = l0 ++ c :: r := by rw [hU]; simp
    obtain ⟨nd0, ih0⟩ := ih l0 (c :: r) (by simpa using hn) hU2
    rw [scan_snoc]
    have hc0 : c ∉ l0 := fun m => by
      rw [hU2] at nd
      have := (List.nodup_append.mp nd).2.2 c m c (by simp)
      exact this rfl
    have hcs : c ∉ scan hit sub l0 := fun m => hc0 ((ih0 c).mp m).1
    have hcU : c ∈ U := by rw [hU2]; simp
    unfold step
    by_cases h : (hit c && !(scan hit sub l0).any fun d => sub d c) = true
    · rw [if_pos h]
      rw [Bool.and_eq_true, Bool.not_eq_true', List.any_eq_false] at h
      obtain ⟨h1, h2⟩ := h
      have low : Low hit sub U c := by
        refine ⟨h1, fun d hd hh hs => ?_⟩
        rcases or l0 c r hU2 d hd hs with e | m
        · exact e
        · exfalso
          obtain ⟨p1, p2, e0⟩ := List.append_of_mem m
          obtain ⟨e, he, le, se, pe⟩ := descend (hit := hit) rf tr or p1.length p1 (p2 ++ c :: r) d rfl (by rw [hU2, e0]; simp) hh
          have me : e ∈ l0 := by
            rw [e0]
            rcases pe with rfl | pe
            · simp
            · exact List.mem_append_left _ pe
          exact h2 e ((ih0 e).mpr ⟨me, le⟩) (tr _ _ _ se hs)
      refine ⟨List.nodup_append.mpr ⟨nd0, List.nodup_cons.mpr ⟨List.not_mem_nil, List.nodup_nil⟩, fun a ha b hb e => ?_⟩, fun x => ?_⟩
      · rw [List.mem_singleton.mp hb] at e
        exact hcs (e ▸ ha)
      · rw [List.mem_append, List.mem_append, List.mem_singleton, ih0]
        exact ⟨fun h => h.elim (fun h => ⟨.inl h.1, h.2⟩) (fun h => (by subst h; exact ⟨.inr rfl, low⟩)), fun h => h.1.elim (fun q => .inl ⟨q, h.2⟩) .inr⟩
    · rw [if_neg h]
      refine ⟨nd0, fun x => ?_⟩
      rw [ih0, List.mem_append, List.mem_singleton]
      refine ⟨fun h => ⟨.inl h.1, h.2⟩, fun ⟨h1, h2⟩ => ⟨h1.elim id fun e => ?_, h2⟩⟩
      subst e
      exfalso
      refine h ?_
      rw [Bool.and_eq_true, Bool.not_eq_true', List.any_eq_false]
      refine ⟨h2.1, fun d hd hs => ?_⟩
      obtain ⟨md, ld⟩ := (ih0 d).mp hd
      have e := h2.2 d (by rw [hU2]; exact List.mem_append_left _ md) ld.1 hs
      exact hc0 (e ▸ md)
theorem scan_ok {hit : α → Bool} {sub : α → α → Bool} {U : List α} (nd : U.Nodup) (rf : ∀ c, sub c c = true) (tr : ∀ a b c, sub a b = true → sub b c = true → sub a c = true) (or : Ordered sub U) :
    (scan hit sub U).Nodup ∧ ∀ c, c ∈ scan hit sub U ↔ c ∈ U ∧ Low hit sub U c := scan_pre nd rf tr or U.length U [] rfl (by simp)
end
end K66

/-! K66M2: sets as bits; all subsets by length; both ways give the least hitting sets. -/
namespace K66
open PySem PySem.Spec PyProof.Rows L2 DL
/-! ### bits -/
def val : List Bool → Nat
  | [] => 0
  | b :: bs => b.toNat + 2 * val bs
theorem val_lt : ∀ bs, val bs < 2 ^ bs.length
  | [] => Nat.one_pos
  | b :: bs => by
    have h := val_lt bs
    show b.toNat + 2 * val bs < 2 ^ (bs.length + 1)
    rw [Nat.pow_succ]
    have : b.toNat ≤ 1 := Bool.toNat_le b
    omega
theorem val_bit : ∀ (bs : List Bool) (i : Nat), (val bs).testBit i = bs.getD i false
  | [], i => by
    show Nat.testBit 0 i = _
    rw [Nat.zero_testBit]
    rfl
  | b :: bs, 0 => by
    show (b.toNat + 2 * val bs).testBit 0 = b
    rw [Nat.testBit_zero]
    cases b <;> simp [Nat.add_mod]
  | b :: bs, i + 1 => by
    show (b.toNat + 2 * val bs).testBit (i + 1) = bs.getD i false
    rw [Nat.testBit_add_one, ← val_bit bs i]
    congr 1
    have : b.toNat ≤ 1 := Bool.toNat_le b
    omega
def pick (N : List Str) (k : Nat) : List Str := N.filter fun x => k.testBit (N.idxOf x)
def bits (N s : List Str) : Nat := val (N.map fun x => decide (x ∈ s))
theorem bits_lt (N s : List Str) : bits N s < 2 ^ N.length := by
  have := val_lt (N.map fun x => decide (x ∈ s))
  rwa [List.length_map] at this
theorem bits_at {N : List Str} {s : List Str} {x : Str} (hx : x ∈ N) : (bits N s).testBit (N.idxOf x) = decide (x ∈ s) := by
  unfold bits
  have hl : N.idxOf x < N.length := List.idxOf_lt_length_of_mem hx
  rw [val_bit, List.getD_eq_getElem?_getD, List.getElem?_map, List.getElem?_eq_getElem hl, List.getElem_idxOf hl]
  rfl
theorem idx_at {N : List Str} (nd : N.Nodup) {i : Nat} (hi : i < N.length) : N.idxOf N[i] = i := by
  have hl : N.idxOf N[i] < N.length := List.idxOf_lt_length_of_mem (List.getElem_mem hi)
  have e : N[N.idxOf N[i]] = N[i] := List.getElem_idxOf hl
  exact (List.getElem_inj nd).mp e
theorem mem_pick {N : List Str} {k : Nat} {x : Str} : x ∈ pick N k ↔ x ∈ N ∧ k.testBit (N.idxOf x) = true := List.mem_filter
theorem pick_inj {N : List Str} (nd : N.Nodup) {k j : Nat} (hk : k < 2 ^ N.length) (hj : j < 2 ^ N.length) (h : ∀ x, x ∈ pick N k ↔ x ∈ pick N j) : k = j := by
  refine Nat.eq_of_testBit_eq fun i => ?_
  by_cases hi : i < N.length
  · have h1 := h N[i]
    rw [mem_pick, mem_pick, idx_at nd hi] at h1
    have hm : N[i] ∈ N := List.getElem_mem hi
    cases e : k.testBit i with
    | true => rw [(h1.mp ⟨hm, e⟩).2]
    | false =>
      cases e2 : j.testBit i with
      | true => rw [(h1.mpr ⟨hm, e2⟩).2] at e; cases e
      | false => rfl
  · have hp : 2 ^ N.length ≤ 2 ^ i := Nat.pow_le_pow_right (by decide) (by omega)
    rw [Nat.testBit_lt_two_pow (by omega), Nat.testBit_lt_two_pow (by omega)]
theorem pick_bits {N s : List Str} (hN : Asc N) (hs : Asc s) (h : ∀ x ∈ s, x ∈ N) : pick N (bits N s) = s := by
  refine asc_ext (asc_filter hN _) hs fun x => ?_
  rw [mem_pick]
  refine ⟨fun ⟨h1, h2⟩ => ?_, fun h1 => ⟨h x h1, by rw [bits_at (h x h1), decide_eq_true h1]⟩⟩
  rw [bits_at h1] at h2
  exact of_decide_eq_true h2
/-! the sum of the bits -/
theorem sum_bits_aux : ∀ (N : List Str) (p : Str → Bool), N.Nodup → ((N.filter p).map fun x => 2 ^ N.idxOf x).sum = val (N.map p)
  | [], _, _ => rfl
  | x :: N, p, nd => by
    have ih := sum_bits_aux N p (List.nodup_cons.mp nd).2
    have hx := (List.nodup_cons.mp nd).1
    have e : ((N.filter p).map fun y => 2 ^ (x :: N).idxOf y) = (N.filter p).map fun y => 2 * 2 ^ N.idxOf y := by
      refine List.map_congr_left fun y hy => ?_
      have hne : x ≠ y := fun e => hx (e ▸ (List.mem_filter.mp hy).1)
      rw [List.idxOf_cons, show (x == y) = false from beq_eq_false_iff_ne.mpr hne, cond_false, Nat.pow_succ, Nat.mul_comm]
    have e2 : ∀ l : List Str, (l.map fun y => 2 * 2 ^ N.idxOf y).sum = 2 * (l.map fun y => 2 ^ N.idxOf y).sum := by
      intro l
      induction l with
      | nil => rfl
      | cons a l ih => rw [List.map_cons, List.sum_cons, ih, List.map_cons, List.sum_cons]; omega
    rw [List.map_cons]
    show _ = (p x).toNat + 2 * val (N.map p)
    cases hp : p x with
    | true =>
      rw [List.filter_cons_of_pos hp, List.map_cons, List.sum_cons, e, e2, ih, List.idxOf_cons_self]
      rfl
    | false =>
      rw [List.filter_cons_of_neg (by rw [hp]; exact Bool.false_ne_true), e, e2, ih]
      simp
theorem sum_bits {N s : List Str} (nN : N.Nodup) (ns : s.Nodup) (h : ∀ x ∈ s, x ∈ N) : (s.map fun x => 2 ^ N.idxOf x).sum = bits N s := by
  unfold bits
  rw [← sum_bits_aux N (fun x => decide (x ∈ s)) nN]
  have p : s.Perm (N.filter fun x => decide (x ∈ s)) := (List.perm_ext_iff_of_nodup ns (nN.filter _)).mpr fun x => by
    rw [List.mem_filter, decide_eq_true_eq]
    exact ⟨fun hx => ⟨h x hx, hx⟩, fun hx => hx.2⟩
  exact (p.map _).sum_nat
/-! the two relations -/
theorem and_bits {N s : List Str} (nN : N.Nodup) {k : Nat} (hk : k < 2 ^ N.length) (h : ∀ x ∈ s, x ∈ N) : k &&& bits N s ≠ 0 ↔ ∃ x ∈ s, x ∈ pick N k := by
  refine ⟨fun hne => ?_, fun ⟨x, hx, hp⟩ e => ?_⟩
  · obtain ⟨i, hi⟩ := Nat.exists_testBit_of_ne_zero hne
    rw [Nat.testBit_and, Bool.and_eq_true] at hi
    have hl : i < N.length := by
      by_cases hl : i < N.length
      · exact hl
      · have hp : 2 ^ N.length ≤ 2 ^ i := Nat.pow_le_pow_right (by decide) (by omega)
        rw [Nat.testBit_lt_two_pow (by omega)] at hi
        cases hi.1
    have hm : N[i] ∈ N := List.getElem_mem hl
    have ei := idx_at nN hl
    have b := bits_at (s := s) hm
    rw [ei, hi.2] at b
    refine ⟨N[i], of_decide_eq_true b.symm, mem_pick.mpr ⟨hm, by rw [ei]; exact hi.1⟩⟩
  · obtain ⟨hm, hb⟩ := mem_pick.mp hp
    have b := bits_at (s := s) hm
    have z : (k &&& bits N s).testBit (N.idxOf x) = true := by
      rw [Nat.testBit_and, hb, b, decide_eq_true hx]
      rfl
    rw [e, Nat.zero_testBit] at z
    cases z
theorem and_sub {N : List Str} (nN : N.Nodup) {d c : Nat} (hd : d < 2 ^ N.length) : d &&& c = d ↔ ∀ x ∈ pick N d, x ∈ pick N c := by
  refine ⟨fun e x hx => ?_, fun h => Nat.eq_of_testBit_eq fun i => ?_⟩
  · obtain ⟨hm, hb⟩ := mem_pick.mp hx
    refine mem_pick.mpr ⟨hm, ?_⟩
    rw [← e, Nat.testBit_and, Bool.and_eq_true] at hb
    exact hb.2
  · rw [Nat.testBit_and]
    cases e : d.testBit i with
    | false => rfl
    | true =>
      have hl : i < N.length := by
        by_cases hl : i < N.length
        · exact hl
        · have hp : 2 ^ N.length ≤ 2 ^ i := Nat.pow_le_pow_right (by decide) (by omega)
          rw [Nat.testBit_lt_two_pow (by omega)] at e
          cases e
      have hm : N[i] ∈ N := List.getElem_mem hl
      have ei := idx_at nN hl
      have z := (mem_pick.mp (h N[i] (mem_pick.mpr ⟨hm, by rw [ei]; exact e⟩))).2
      rw [ei] at z
      rw [z]
      rfl
/-! ### the way by bits -/
def hitB (N : List Str) (fam : Fam) (k : Nat) : Bool := fam.all fun m => decide (k &&& bits N m ≠ 0)
def subB (d c : Nat) : Bool := decide (d &&& c = d)
theorem hitB_iff {N : List Str} (nN : N.Nodup) {fam : Fam} (hf : ∀ m ∈ fam, ∀ x ∈ m, x ∈ N) {k : Nat} (hk : k < 2 ^ N.length) : hitB N fam k = true ↔ Hit fam (pick N k) := by
  unfold hitB Hit
  rw [List.all_eq_true]
  refine ⟨fun h m hm => (and_bits nN hk (hf m hm)).mp (of_decide_eq_true (h m hm)), fun h m hm => decide_eq_true ((and_bits nN hk (hf m hm)).mpr (h m hm))⟩
theorem bitsU (n : Nat) : Ordered subB (List.range n) := by
  intro pre c post hU d hd hs
  have hdn : d < n := List.mem_range.mp hd
  have hc : c = pre.length := by
    have h1 : (List.range n)[pre.length]? = some c := by rw [hU]; simp
    have hl := (List.getElem?_eq_some_iff.mp h1).1
    rw [List.length_range] at hl
    rw [List.getElem?_range hl] at h1
    exact (Option.some.inj h1).symm
  have hle : d ≤ c := by
    have e : d &&& c = d := of_decide_eq_true hs
    rw [← e]
    exact Nat.and_le_right
  by_cases e : d = c
  · exact .inl e
  · refine .inr ?_
    have h1 : (List.range n)[d]? = some d := List.getElem?_range hdn
    rw [hU, List.getElem?_append_left (by omega)] at h1
    exact List.mem_of_getElem? h1
theorem subB_refl (c : Nat) : subB c c = true := decide_eq_true (Nat.and_self c)
theorem subB_trans (a b c : Nat) (h : subB a b = true) (h' : subB b c = true) : subB a c = true := by
  have e1 : a &&& b = a := of_decide_eq_true h
  have e2 : b &&& c = b := of_decide_eq_true h'
  refine decide_eq_true ?_
  rw [← e1, Nat.and_assoc, e2]
theorem leastB {N : List Str} {fam : Fam} (hN : Asc N) (hf : ∀ m ∈ fam, ∀ x ∈ m, x ∈ N) : IsLeast fam (((scan (hitB N fam) subB (List.range (2 ^ N.length))).map (pick N)).mergeSort tupLe) := by
  have nN := hN.nodup
  obtain ⟨nd, mem⟩ := scan_ok (hit := hitB N fam) (sub := subB) (U := List.range (2 ^ N.length)) List.nodup_range subB_refl subB_trans (bitsU _)
  have lt : ∀ k ∈ scan (hitB N fam) subB (List.range (2 ^ N.length)), k < 2 ^ N.length := fun k hk => List.mem_range.mp ((mem k).mp hk).1
  refine isLeast_sort ?_ fun c => ?_
  · rw [List.nodup_iff_pairwise_ne] at nd ⊢
    rw [List.pairwise_map]
    refine List.Pairwise.imp_of_mem (fun {a b} ha hb hne e => hne ?_) nd
    exact pick_inj nN (lt a ha) (lt b hb) fun x => by rw [e]
  · rw [List.mem_map]
    constructor
    · rintro ⟨k, hk, rfl⟩
      obtain ⟨hk1, h1, h2⟩ := (mem k).mp hk
      have hkl := List.mem_range.mp hk1
      refine ⟨asc_filter hN _, (hitB_iff nN hf hkl).mp h1, fun d hd hh x hx => ?_⟩
      -- d's names of N, as a set of bits
      have hdl := bits_lt N d
      have e : ∀ x, x ∈ pick N (bits N d) ↔ x ∈ N ∧ x ∈ d := fun x => by
        rw [mem_pick]
        refine ⟨fun ⟨a, b⟩ => ⟨a, ?_⟩, fun ⟨a, b⟩ => ⟨a, by rw [bits_at a, decide_eq_true b]⟩⟩
        rw [bits_at a] at b
        exact of_decide_eq_true b
      have hh2 : Hit fam (pick N (bits N d)) := fun m hm => by
        obtain ⟨y, hy, hyd⟩ := hh m hm
        exact ⟨y, hy, (e y).mpr ⟨hf m hm y hy, hyd⟩⟩
      have z := h2 (bits N d) (List.mem_range.mpr hdl) ((hitB_iff nN hf hdl).mpr hh2) (decide_eq_true ((and_sub nN hdl).mpr fun y hy => hd y ((e y).mp hy).2))
      have hx2 : x ∈ pick N (bits N d) := by rw [z]; exact hx
      exact ((e x).mp hx2).2
    · rintro ⟨ha, hh, hm⟩
      -- c ⊆ N
      have hcN : ∀ x ∈ c, x ∈ N := by
        intro x hx
        have z := hm (c.filter fun y => decide (y ∈ N)) (fun y hy => (List.mem_filter.mp hy).1) (fun m hmm => by
          obtain ⟨y, hy, hyc⟩ := hh m hmm
          exact ⟨y, hy, List.mem_filter.mpr ⟨hyc, decide_eq_true (hf m hmm y hy)⟩⟩) x hx
        exact of_decide_eq_true (List.mem_filter.mp z).2
      have hl := bits_lt N c
      have hp := pick_bits hN ha hcN
      refine ⟨bits N c, (mem _).mpr ⟨List.mem_range.mpr hl, (hitB_iff nN hf hl).mpr (by rw [hp]; exact hh), fun d hd hdh hds => ?_⟩, hp⟩
      have hdl := List.mem_range.mp hd
      have s := (and_sub nN hdl).mp (of_decide_eq_true hds)
      rw [hp] at s
      have t := hm (pick N d) s ((hitB_iff nN hf hdl).mp hdh)
      refine pick_inj nN hdl hl fun x => ?_
      rw [hp]
      exact ⟨s x, t x⟩
/-! ### the way by all subsets -/
def pw (N : List Str) : Fam := N.foldl (fun sets x => sets ++ sets.map fun c => c ++ [x]) [[]]
theorem pw_snoc (N : List Str) (x : Str) : pw (N ++ [x]) = pw N ++ (pw N).map fun c => c ++ [x] := by
  unfold pw
  rw [List.foldl_append]
  rfl
theorem pw_len (N : List Str) : (pw N).length = 2 ^ N.length := by
  have go : ∀ (n : Nat) (N : List Str), N.length = n → (pw N).length = 2 ^ N.length := by
    intro n
    induction n with
    | zero =>
      intro N h
      rw [List.eq_nil_of_length_eq_zero h]
      rfl
    | succ n ih =>
      intro N h
      have hne : N ≠ [] := fun e => by rw [e] at h; cases h
      obtain ⟨M, x, rfl⟩ : ∃ M x, N = M ++ [x] := ⟨_, _, (List.dropLast_concat_getLast hne).symm⟩
      rw [pw_snoc, List.length_append, List.length_map, ih M (by simpa using h), List.length_append, Nat.pow_add]
      show _ = _ * 2 ^ 1
      omega
  exact go _ N rfl
theorem mem_pw (N : List Str) : ∀ c, c ∈ pw N ↔ c.Sublist N := by
  have go : ∀ (n : Nat) (N : List Str), N.length = n → ∀ c, c ∈ pw N ↔ c.Sublist N := by
    intro n
    induction n with
    | zero =>
      intro N h c
      rw [List.eq_nil_of_length_eq_zero h]
      show c ∈ [[]] ↔ _
      rw [List.mem_singleton, List.sublist_nil]
    | succ n ih =>
      intro N h c
      have hne : N ≠ [] := fun e => by rw [e] at h; cases h
      obtain ⟨M, x, rfl⟩ : ∃ M x, N = M ++ [x] := ⟨_, _, (List.dropLast_concat_getLast hne).symm⟩
      have ihM := ih M (by simpa using h)
      rw [pw_snoc, List.mem_append, ihM, List.mem_map, List.sublist_append_iff]
      constructor
      · rintro (h | ⟨d, hd, rfl⟩)
        · exact ⟨c, [], by simp, h, List.nil_sublist _⟩
        · exact ⟨d, [x], rfl, (ihM d).mp hd, List.Sublist.refl _⟩
      · rintro ⟨a, b, rfl, ha, hb⟩
        have hb2 : b = [] ∨ b = [x] := by
          cases hb with
          | cons _ h =>
            exact .inl (List.sublist_nil.mp h)
          | cons_cons _ h =>
            rw [List.sublist_nil.mp h]
            exact .inr rfl
        rcases hb2 with rfl | rfl
        · rw [List.append_nil]
          exact .inl ha
        · exact .inr ⟨a, (ihM a).mpr ha, rfl⟩
  exact go _ N rfl
theorem nodup_pw {N : List Str} (nd : N.Nodup) : (pw N).Nodup := by
  have go : ∀ (n : Nat) (N : List Str), N.length = n → N.Nodup → (pw N).Nodup := by
    intro n
    induction n with
    | zero =>
      intro N h _
      rw [List.eq_nil_of_length_eq_zero h]
      exact List.nodup_cons.mpr ⟨List.not_mem_nil, List.nodup_nil⟩
    | succ n ih =>
      intro N h nd
      have hne : N ≠ [] := fun e => by rw [e] at h; cases h
      obtain ⟨M, x, rfl⟩ : ∃ M x, N = M ++ [x] := ⟨_, _, (List.dropLast_concat_getLast hne).symm⟩
      obtain ⟨n1, _, n3⟩ := List.nodup_append.mp nd
      have i := ih M (by simpa using h) n1
      rw [pw_snoc]
      refine List.nodup_append.mpr ⟨i, ?_, fun a ha b hb e => ?_⟩
      · rw [List.nodup_iff_pairwise_ne] at i ⊢
        rw [List.pairwise_map]
        exact i.imp fun hne e => hne (List.append_cancel_right e)
      · obtain ⟨d, hd, rfl⟩ := List.mem_map.mp hb
        have s := (mem_pw M a).mp ha
        have hx : x ∈ M := s.subset (by rw [e]; simp)
        exact n3 x hx x (by simp) rfl
  exact go _ N rfl nd
def hitS (fam : Fam) (c : List Str) : Bool := decide (∀ m ∈ fam, ∃ x ∈ m, x ∈ c)
def subS (d c : List Str) : Bool := decide (∀ x ∈ d, x ∈ c)
def byLen (N : List Str) : Fam := (pw N).mergeSort fun a b => decide ((a.length : Int) ≤ (b.length : Int))
theorem mem_byLen (N : List Str) (c : List Str) : c ∈ byLen N ↔ c.Sublist N := (List.mem_mergeSort).trans (mem_pw N c)
theorem byLen_ordered {N : List Str} (hN : Asc N) : Ordered subS (byLen N) := by
  intro pre c post hU d hd hs
  have so : (byLen N).Pairwise fun a b => decide ((a.length : Int) ≤ (b.length : Int)) = true :=
    List.pairwise_mergeSort (le := fun a b : List Str => decide ((a.length : Int) ≤ (b.length : Int))) (fun a b c h1 h2 => by simp at *; omega) (fun a b => by simp; omega) (pw N)
  have hs' : ∀ x ∈ d, x ∈ c := of_decide_eq_true hs
  have hc : c ∈ byLen N := by rw [hU]; simp
  have ad := asc_sub ((mem_byLen N d).mp hd) hN
  have ac := asc_sub ((mem_byLen N c).mp hc) hN
  by_cases e : d = c
  · exact .inl e
  · refine .inr ?_
    have hd2 := hd
    rw [hU, List.mem_append, List.mem_cons] at hd2
    rcases hd2 with h | h | h
    · exact h
    · exact absurd h e
    · exfalso
      rw [hU] at so
      have h1 := (List.pairwise_append.mp so).2.1
      have h2 := (List.pairwise_cons.mp h1).1 d h
      have h3 : (c.length : Int) ≤ (d.length : Int) := of_decide_eq_true h2
      have h4 := List.Nodup.length_le_of_subset ad.nodup hs'
      refine e (asc_ext ad ac fun x => ⟨hs' x, fun hx => ?_⟩)
      -- as long, so the same
      by_cases hx2 : x ∈ d
      · exact hx2
      · exfalso
        have h5 := List.Nodup.length_le_of_subset (l₁ := x :: d) (l₂ := c) (List.nodup_cons.mpr ⟨hx2, ad.nodup⟩) fun y hy => by
          rcases List.mem_cons.mp hy with rfl | hy
          · exact hx
          · exact hs' y hy
        rw [List.length_cons] at h5
        omega
theorem subS_refl (c : List Str) : subS c c = true := decide_eq_true fun _ h => h
theorem subS_trans (a b c : List Str) (h : subS a b = true) (h' : subS b c = true) : subS a c = true :=
  decide_eq_true fun x hx => of_decide_eq_true h' x (of_decide_eq_true h x hx)
theorem sublist_of_asc {N c : List Str} (hN : Asc N) (hc : Asc c) (h : ∀ x ∈ c, x ∈ N) : c.Sublist N := by
  have e : N.filter (fun x => decide (x ∈ c)) = c := asc_ext (asc_filter hN _) hc fun x => by
    rw [List.mem_filter, decide_eq_true_eq]
    exact ⟨fun q => q.2, fun q => ⟨h x q, q⟩⟩
  rw [← e]
  exact List.filter_sublist
theorem leastS {N : List Str} {fam : Fam} (hN : Asc N) (hf : ∀ m ∈ fam, ∀ x ∈ m, x ∈ N) : IsLeast fam ((scan (hitS fam) subS (byLen N)).mergeSort tupLe) := by
  have nU : (byLen N).Nodup := (List.mergeSort_perm _ _).nodup_iff.mpr (nodup_pw hN.nodup)
  obtain ⟨nd, mem⟩ := scan_ok (hit := hitS fam) (sub := subS) (U := byLen N) nU subS_refl subS_trans (byLen_ordered hN)
  refine isLeast_sort nd fun c => ?_
  rw [mem, mem_byLen]
  constructor
  · rintro ⟨hs, hh, hm⟩
    have ac := asc_sub hs hN
    refine ⟨ac, (show ∀ m ∈ fam, ∃ x ∈ m, x ∈ c from of_decide_eq_true hh), fun d hd hdh x hx => ?_⟩
    have e := hm (c.filter fun y => decide (y ∈ d)) ((mem_byLen N _).mpr (List.filter_sublist.trans hs)) (decide_eq_true fun m hmm => by
      obtain ⟨y, hy, hyd⟩ := hdh m hmm
      exact ⟨y, hy, List.mem_filter.mpr ⟨hd y hyd, decide_eq_true hyd⟩⟩) (decide_eq_true fun y hy => (List.mem_filter.mp hy).1)
    rw [← e] at hx
    exact of_decide_eq_true (List.mem_filter.mp hx).2
  · rintro ⟨ha, hh, hm⟩
    have hcN : ∀ x ∈ c, x ∈ N := by
      intro x hx
      have z := hm (c.filter fun y => decide (y ∈ N)) (fun y hy => (List.mem_filter.mp hy).1) (fun m hmm => by
        obtain ⟨y, hy, hyc⟩ := hh m hmm
        exact ⟨y, hy, List.mem_filter.mpr ⟨hyc, decide_eq_true (hf m hmm y hy)⟩⟩) x hx
      exact of_decide_eq_true (List.mem_filter.mp z).2
    refine ⟨sublist_of_asc hN ha hcN, decide_eq_true (show ∀ m ∈ fam, ∃ x ∈ m, x ∈ c from hh), fun d hd hdh hds => ?_⟩
    have s : ∀ x ∈ d, x ∈ c := of_decide_eq_true hds
    exact asc_ext (asc_sub ((mem_byLen N d).mp hd) hN) ha fun x => ⟨s x, hm d s (show ∀ m ∈ fam, ∃ x ∈ m, x ∈ d from of_decide_eq_true hdh) x⟩
end K66

/-! K66M3: the least hitting sets of the least hitting sets are the least members. -/
namespace K66
open PySem PySem.Spec PyProof.Rows L2 DL
theorem exists_asc (h : List Str) : ∃ c, Asc c ∧ ∀ x, x ∈ c ↔ x ∈ h := by
  induction h with
  | nil => exact ⟨[], List.Pairwise.nil, fun _ => Iff.rfl⟩
  | cons y h ih =>
    obtain ⟨c, hc, e⟩ := ih
    by_cases hy : y ∈ c
    · refine ⟨c, hc, fun x => ?_⟩
      rw [List.mem_cons, e]
      exact ⟨.inr, fun q => q.elim (fun z => by rw [z]; exact (e y).mp hy) id⟩
    · refine ⟨(y :: c).mergeSort strLe, asc_sort (List.nodup_cons.mpr ⟨hy, hc.nodup⟩), fun x => ?_⟩
      rw [List.mem_mergeSort, List.mem_cons, List.mem_cons, e]
theorem min_below {fam : Fam} : ∀ (n : Nat) (c : List Str), c.length = n → Asc c → Hit fam c → ∃ d, Min fam d ∧ ∀ x ∈ d, x ∈ c := by
  intro n
  induction n using Nat.strongRecOn with
  | _ n ih =>
    intro c hn ha hh
    by_cases h : ∀ d : List Str, (∀ x ∈ d, x ∈ c) → Hit fam d → ∀ x ∈ c, x ∈ d
    · exact ⟨c, ⟨ha, hh, h⟩, fun _ q => q⟩
    · obtain ⟨d, h⟩ := Classical.not_forall.mp h
      obtain ⟨hd, h⟩ := Classical.not_imp.mp h
      obtain ⟨hdh, h⟩ := Classical.not_imp.mp h
      obtain ⟨x, h⟩ := Classical.not_forall.mp h
      obtain ⟨hx, hxd⟩ := Classical.not_imp.mp h
      have hlt : (c.filter fun y => decide (y ∈ d)).length < n := by
        rw [← hn]
        refine List.length_filter_lt_length_iff_exists.mpr ⟨x, hx, ?_⟩
        simpa using hxd
      obtain ⟨e, he, hs⟩ := ih _ hlt (c.filter fun y => decide (y ∈ d)) rfl (asc_filter ha _) fun m hm => by
        obtain ⟨y, hy, hyd⟩ := hdh m hm
        exact ⟨y, hy, List.mem_filter.mpr ⟨hd y hyd, decide_eq_true hyd⟩⟩
      exact ⟨e, he, fun y hy => (List.mem_filter.mp (hs y hy)).1⟩
theorem min_under {fam : Fam} {h : List Str} (hh : Hit fam h) : ∃ d, Min fam d ∧ ∀ x ∈ d, x ∈ h := by
  obtain ⟨c, hc, e⟩ := exists_asc h
  obtain ⟨d, hd, hs⟩ := min_below (fam := fam) _ c rfl hc fun m hm => by
    obtain ⟨x, hx, hxh⟩ := hh m hm
    exact ⟨x, hx, (e x).mpr hxh⟩
  exact ⟨d, hd, fun x hx => (e x).mp (hs x hx)⟩
def LowM (fam : Fam) (c : List Str) : Prop := c ∈ fam ∧ ∀ d ∈ fam, (∀ x ∈ d, x ∈ c) → ∀ x ∈ c, x ∈ d
theorem back_sub {c d : List Str} (nc : c.Nodup) (nd : d.Nodup) (hs : ∀ x ∈ d, x ∈ c) (hl : c.length ≤ d.length) : ∀ x ∈ c, x ∈ d := by
  intro x hx
  by_cases hx2 : x ∈ d
  · exact hx2
  · exfalso
    have h5 := List.Nodup.length_le_of_subset (l₁ := x :: d) (l₂ := c) (List.nodup_cons.mpr ⟨hx2, nd⟩) fun y hy => by
      rcases List.mem_cons.mp hy with rfl | hy
      · exact hx
      · exact hs y hy
    rw [List.length_cons] at h5
    omega
theorem low_below {fam : Fam} (ha : ∀ m ∈ fam, Asc m) : ∀ (n : Nat) (m : List Str), m.length = n → m ∈ fam → ∃ d, LowM fam d ∧ ∀ x ∈ d, x ∈ m := by
  intro n
  induction n using Nat.strongRecOn with
  | _ n ih =>
    intro m hn hm
    by_cases h : ∀ d ∈ fam, (∀ x ∈ d, x ∈ m) → ∀ x ∈ m, x ∈ d
    · exact ⟨m, ⟨hm, h⟩, fun _ q => q⟩
    · obtain ⟨d, h⟩ := Classical.not_forall.mp h
      obtain ⟨hd, h⟩ := Classical.not_imp.mp h
      obtain ⟨hs, h⟩ := Classical.not_imp.mp h
      have hlt : d.length < n := by
        rw [← hn]
        by_cases q : d.length < m.length
        · exact q
        · exact absurd (back_sub (ha m hm).nodup (ha d hd).nodup hs (by omega)) h
      obtain ⟨e, he, hs2⟩ := ih _ hlt d rfl hd
      exact ⟨e, he, fun y hy => hs y (hs2 y hy)⟩
theorem dual {fam D : Fam} (ha : ∀ m ∈ fam, Asc m) (hD : IsLeast fam D) (c : List Str) : Min D c ↔ LowM fam c := by
  constructor
  · rintro ⟨ac, hc, hm⟩
    have hex : ∃ m ∈ fam, ∀ x ∈ m, x ∈ c := by
      by_cases q : ∃ m ∈ fam, ∀ x ∈ m, x ∈ c
      · exact q
      · exfalso
        have hh : Hit fam (fam.flatten.filter fun y => decide (y ∉ c)) := fun m hmm => by
          have z : ∃ x ∈ m, x ∉ c := by
            by_cases z : ∃ x ∈ m, x ∉ c
            · exact z
            · exfalso
              refine q ⟨m, hmm, fun x hx => ?_⟩
              by_cases hxc : x ∈ c
              · exact hxc
              · exact absurd ⟨x, hx, hxc⟩ z
          obtain ⟨x, hx, hxc⟩ := z
          exact ⟨x, hx, List.mem_filter.mpr ⟨List.mem_flatten.mpr ⟨m, hmm, hx⟩, decide_eq_true hxc⟩⟩
        obtain ⟨d, hd, hs⟩ := min_under hh
        obtain ⟨x, hx, hxc⟩ := hc d ((hD.mem d).mpr hd)
        exact (of_decide_eq_true (List.mem_filter.mp (hs x hx)).2) hxc
    obtain ⟨m, hmf, hms⟩ := hex
    obtain ⟨m0, h0, s0⟩ := low_below ha _ m rfl hmf
    have hit0 : Hit D m0 := fun d hd => by
      obtain ⟨x, hx, hxd⟩ := ((hD.mem d).mp hd).2.1 m0 h0.1
      exact ⟨x, hxd, hx⟩
    have e : m0 = c := asc_ext (ha m0 h0.1) ac fun x => ⟨fun hx => hms x (s0 x hx), hm m0 (fun y hy => hms y (s0 y hy)) hit0 x⟩
    rw [← e]
    exact h0
  · rintro ⟨hc, hl⟩
    refine ⟨ha c hc, fun d hd => ?_, fun e he hhe x hx => ?_⟩
    · obtain ⟨x, hx, hxd⟩ := ((hD.mem d).mp hd).2.1 c hc
      exact ⟨x, hxd, hx⟩
    · have hh : Hit fam (fam.flatten.filter fun y => decide (y ∉ c ∨ y = x)) := fun m hmm => by
        by_cases z : ∃ y ∈ m, y ∉ c
        · obtain ⟨y, hy, hyc⟩ := z
          exact ⟨y, hy, List.mem_filter.mpr ⟨List.mem_flatten.mpr ⟨m, hmm, hy⟩, decide_eq_true (.inl hyc)⟩⟩
        · have s : ∀ y ∈ m, y ∈ c := fun y hy => by
            by_cases hyc : y ∈ c
            · exact hyc
            · exact absurd ⟨y, hy, hyc⟩ z
          have hxm := hl m hmm s x hx
          exact ⟨x, hxm, List.mem_filter.mpr ⟨List.mem_flatten.mpr ⟨m, hmm, hxm⟩, decide_eq_true (.inr rfl)⟩⟩
      obtain ⟨d, hd, hs⟩ := min_under hh
      obtain ⟨y, hy, hye⟩ := hhe d ((hD.mem d).mpr hd)
      rcases of_decide_eq_true (List.mem_filter.mp (hs y hy)).2 with h | h
      · exact absurd (he y hye) h
      · rw [← h]
        exact hye
def lowB (fam : Fam) (c : List Str) : Bool := !fam.any fun d => decide ((d.length : Int) < (c.length : Int)) && d.all fun x => decide (x ∈ c)
theorem lowB_iff {fam : Fam} (ha : ∀ m ∈ fam, Asc m) {c : List Str} (hc : c ∈ fam) : lowB fam c = true ↔ LowM fam c := by
  unfold lowB LowM
  rw [Bool.not_eq_true', List.any_eq_false]
  constructor
  · intro h
    refine ⟨hc, fun d hd hs => ?_⟩
    have z := h d hd
    rw [Bool.and_eq_true, decide_eq_true_eq, List.all_eq_true] at z
    refine back_sub (ha c hc).nodup (ha d hd).nodup hs ?_
    by_cases q : c.length ≤ d.length
    · exact q
    · exact absurd ⟨by omega, fun x hx => decide_eq_true (hs x hx)⟩ z
  · rintro ⟨_, h⟩ d hd z
    rw [Bool.and_eq_true, decide_eq_true_eq, List.all_eq_true] at z
    have hs : ∀ x ∈ d, x ∈ c := fun x hx => of_decide_eq_true (z.2 x hx)
    have h2 := List.Nodup.length_le_of_subset (ha c hc).nodup (h d hd hs)
    omega
/-- the least members, told as the law does -/
theorem dual_list {fam D xs : Fam} (ha : ∀ m ∈ fam, Asc m) (hD : IsLeast fam D) (nd : xs.Nodup) (hm : ∀ c, c ∈ xs ↔ c ∈ fam.filter (lowB fam)) : IsLeast D (xs.mergeSort tupLe) := by
  refine isLeast_sort nd fun c => ?_
  rw [hm, dual ha hD, List.mem_filter]
  exact ⟨fun h => (lowB_iff ha h.1).mp h.2, fun h => ⟨h.1, (lowB_iff ha h.1).mpr h⟩⟩
/-! ### the cheapest -/
def cheapStep (cost : List Str → Int) (best : Option (Int × List Str)) (c : List Str) : Option (Int × List Str) := match best with
  | none => some (cost c, c)
  | some b => if cost c < b.1 then some (cost c, c) else some b
def cheap (cost : List Str → Int) (L : Fam) : Option (Int × List Str) := L.foldl (cheapStep cost) none
theorem cheap_snoc (cost : List Str → Int) (L : Fam) (c : List Str) : cheap cost (L ++ [c]) = cheapStep cost (cheap cost L) c := by
  unfold cheap
  rw [List.foldl_append]
  rfl
theorem cheap_mem (cost : List Str → Int) : ∀ (L : Fam) (b : Option (Int × List Str)) (k : Int) (c : List Str), L.foldl (cheapStep cost) b = some (k, c) → c ∈ L ∨ b = some (k, c)
  | [], b, k, c, h => .inr h
  | d :: L, b, k, c, h => by
    rcases cheap_mem cost L _ k c h with h1 | h1
    · exact .inl (List.mem_cons_of_mem _ h1)
    · unfold cheapStep at h1
      cases b with
      | none =>
        dsimp only at h1
        cases h1
        exact .inl (List.mem_cons_self ..)
      | some b =>
        dsimp only at h1
        split at h1
        · cases h1
          exact .inl (List.mem_cons_self ..)
        · exact .inr h1
end K66

/-! K66H: further equations; the pool; endings. -/
namespace K66
open PySem PySem.Spec PyProof.Rows L2 DL KS
section
variable {di di1 : DI} {g g1 : DG} {dt dt1 : DT} {dk dv de : DE} {vs vs1 : List Nat} {env : Slots} {S : Sto} {Q : WK} {dr : DA} {da : DE} {q : List DL.W → (Sto → Prop) → Sto → Prop}
theorem e_dictC : dDictC di g dt dk dv vs env S Q = di env S fun its still S1 => dictW g dt dk dv vs still env Q its [] S1 := rfl
theorem e_sc2 : dSortSC2 di g dt di1 g1 dt1 de vs vs1 env S Q = di env S fun its still S1 =>
  setW2 g dt di1 g1 dt1 de vs vs1 still env (fun acc S2 => AlikeK acc ∧ ∀ us, Once acc us → Q (.ref S2.length) (S2 ++ [.lst ((us.map wK).mergeSort leW)])) its [] S1 := rfl
theorem e_rng3 : DL.iRng3 dr env S q = dr env S fun ws S1 => ∃ (i j c : Int) (n : Nat), ws = [.int i, .int j, .int c] ∧ RgC i j c n ∧ q (rngC i c n) (fun _ => True) S1 := rfl
theorem e_zip : iZip dr env S q = dr env S fun us S1 => match us with
  | [w1, w2] => (isTupW w1 = false → isTupW w2 = false) ∧ vSeqI w1 S1 fun xs st1 S2 => vSeqI w2 S2 fun ys st2 => q (zipW xs ys) (fun S => st1 S ∧ st2 S)
  | _ => False := rfl
theorem e_iseqF : iSeqF da env S q = da env S fun w S1 => vSeqF w S1 q := rfl
end
/-! ### the pool -/
abbrev PB (pl : List Int) (R : Sto) : Sto := .lst (pl.map W.int) :: R
def Good (pl : List Int) : Prop := pl.length ≤ 1000
theorem closed_PB {pl pl' : List Int} {R : Sto} (h : Closed (PB pl R)) : Closed (PB pl' R) := by
  rw [closed_iff] at h ⊢
  intro o ho
  rcases List.mem_cons.mp ho with rfl | ho
  · exact bndL_ints _ _
  · exact h o (List.mem_cons_of_mem _ ho)
theorem endP {pl pl' : List Int} {R : Sto} {Q : WK} {w : DL.W} (cl : Closed (PB pl R)) (hp : w.pure = true) (q : Q w (PB pl' R)) : Ends0 (R.length + 1) Q w (PB pl' R) :=
  Ends0.keep (Nat.le_refl _) (closed_PB cl) (pure_bnd _ _ hp) q
theorem endPT {pl pl' : List Int} {R : Sto} {Q : WK} {w : DL.W} (T : Sto) (cl : Closed (PB pl R)) (hp : w.pure = true) (q : Q w (PB pl' R)) : Ends0 (R.length + 1) Q w (PB pl' (R ++ T)) :=
  Ends0.drop (S0 := PB pl' R) T (Nat.le_refl _) (closed_PB cl) (pure_bnd _ _ hp) q
/-- the last list is kept, what else is new goes -/
theorem endPL {pl pl' : List Int} {R T : Sto} {Q : WK} {ws : List DL.W} {k j : Nat} (cl : Closed (PB pl R)) (hk : T[k]? = some (.lst ws)) (hj : j = R.length + k + 1) (hp : W.pureL ws = true) (q : Q (.ref (R.length + 1)) (PB pl' (R ++ [.lst ws]))) : Ends0 (R.length + 1) Q (.ref j) (PB pl' (R ++ T)) := by
  have z := Ends0.last (n := R.length + 1) (Q := Q) (S := PB pl' R) (T := T) (k := k) (ws := ws) (Nat.le_refl _) (closed_PB cl) hk hp q
  have e : (PB pl' R).length + k = j := by rw [hj]; show R.length + 1 + k = _; omega
  rw [e] at z
  exact z
/-! ### dict comprehensions -/
theorem dictW_inv {g : DG} {tt : DT} {tk tv : DE} {vs : List Nat} {still : Sto → Prop} {env : Slots} {Q : WK} {its : List DL.W} {S : Sto} (I : Nat → List (Key × DL.W) → Sto → Prop) (h0 : I 0 [] S)
    (hs : ∀ (i : Nat) (x : DL.W) (acc : List (Key × DL.W)) (S : Sto), its[i]? = some x → I i acc S → ∀ N : List (Key × DL.W) → Sto → Prop, (∀ a s, I (i + 1) a s → N a s) → still S ∧ g x (wipeW env vs) S fun env2 S2 => tt env2 S2 fun b S3 => if b = true then tk env2 S3 fun y S4 => tv env2 S4 fun z S5 => ∃ k, y = wK k ∧ acc.length < sizeLine ∧ N (putW acc k z) S5 else N acc S3)
    (he : ∀ acc S, I its.length acc S → still S ∧ Q (.ref S.length) (S ++ [.dk acc])) : dictW g tt tk tv vs still env Q its [] S := by
  have go : ∀ (n i : Nat) (acc : List (Key × DL.W)) (S : Sto), i + n = its.length → I i acc S → dictW g tt tk tv vs still env Q (its.drop i) acc S := by
    intro n
    induction n with
    | zero =>
      intro i acc S hn hi
      have e : i = its.length := by omega
      subst e
      rw [List.drop_length]
      exact he acc S hi
    | succ n ih =>
      intro i acc S hn hi
      have hlt : i < its.length := by omega
      rw [List.drop_eq_getElem_cons hlt]
      exact hs i its[i] acc S (List.getElem?_eq_getElem hlt) hi (fun a s => dictW g tt tk tv vs still env Q (its.drop (i + 1)) a s) fun a s h => ih (i + 1) a s (by omega) h
  have z := go its.length 0 [] S (by omega) h0
  rwa [List.drop_zero] at z
end K66

namespace K66
open PySem PySem.Spec PyProof.Rows L2 TL DL KS
local macro_rules | `(tactic| walk_at "dl") => `(tactic| try simp (config := { decide := false }) only [e_seq, e_asg, e_nm, e_op, e_un, e_cb, e_c, e_var, e_ifs, e_tru, e_B, e_drop, e_bm, e_bm0, e_ret, e_retN, e_next, e_break, e_cont, e_nil, e_cons, e_tup, e_lst, e_sl, e_onone, e_osome, e_gsub, e_call, e_callk, e_and, e_or, e_not, e_andv, e_orv, e_notv, e_notU, e_isI, e_isS, e_isT, e_isR, e_isN, e_if, e_par, e_for, e_comp, e_iseq, e_rng1, e_rng3, e_zip, e_dictC, e_sc2, e_iseqF, e_yes, e_gtp, e_gc, e_gn0,
  e_addI, e_addS, e_addT, e_addL, e_i20, e_i2, e_neg, e_cmpI, e_cmpS, e_eqI, e_eqS, e_eqB, e_ixT, e_ixLit, e_ixL, e_ixS, e_set, e_ixAT, e_ixALit, e_ixAL, e_ixAS, e_ixAD, e_setAL, e_setAD, e_dict0, e_inAL, e_inAT, e_inAD, e_inAS, e_listAT, e_listALit, e_listAL, e_listAD, e_max2, e_extend, e_isalpha, e_enum, keyW, sz0, sz1, sz2, sz3, sz4, sz5, sz6, O.dk.injEq, e_slT, e_slLit, e_slS, e_slL, e_lenAS, e_lenAT, e_lenALit, e_lenAL, e_lenAD, e_lenS, e_lenT, e_lenLit, e_lenL, e_i1, e_intI, e_intB, e_strI, e_strS, e_listT, e_listLit, e_listL, e_tupleT, e_tupleL, e_append, e_pop0, e_tyL, e_tyS, e_truL, e_truT, e_truB, e_truI, e_truS, e_truN, e_seqT, e_seqLit, e_seqL, e_in, e_inT, e_isi, kit_ll, kit_ss, tyW_L, tyW_S, tyW_T, tyW_I, tyW_B, cut_to1, cut_to2, cut_from1, wipeW_nil, wipeW_cons, Nat.reduceAdd, eq_self, List.map_cons, List.map_nil,
  atI_0, atI_1, atI_2, atI_3, atI_4, atI_5, atI_end, ixN_0, ixN_1, ixN_11, ixN_last, List.map_append, List.map_cons, List.map_nil, get_app, get_app0, set_app, set_app0, List.cons_append, List.nil_append, List.append_assoc, List.length_append, List.length_cons, List.length_nil, Nat.zero_add, List.length_map, List.length_set,
  List.getElem?_cons_zero, List.getElem?_cons_succ, List.set_cons_zero, List.set_cons_succ, Option.some.injEq, exists_eq_left', exists_eq_left, exists_and_left, W.int.injEq, W.bl.injEq, W.str.injEq, W.tup.injEq, W.ref.injEq, O.lst.injEq, List.cons.injEq, reduceCtorEq, false_and, exists_false, or_false, false_or, true_and, and_true, decide_eq_true_eq, Bool.false_xor, Bool.true_xor, Bool.not_eq_true', decide_eq_false_iff_not, List.isEmpty_cons, List.isEmpty_nil, Bool.not_true, Bool.not_false, if_true, if_false, not_true_eq_false, not_false_eq_true, ne_eq, Bool.false_eq_true, reduceIte])


/-! ### _law_pick -/
def F_pick : DSpec := fun ws S Q => ∃ pl R many, ws = [.ref 0, .int many] ∧ S = PB pl R ∧ Good pl ∧ 0 < many ∧ ∀ pl' r, Good pl' → 0 ≤ r → r < many → Q (.int r) (PB pl' R)
theorem pick_ok {pl : List Int} {R : Sto} {many : Int} {Q : WK} (g : Good pl) (h0 : 0 < many) (k : ∀ pl' r, Good pl' → 0 ≤ r → r < many → Q (.int r) (PB pl' R)) : F_pick [.ref 0, .int many] (PB pl R) Q :=
  ⟨pl, R, many, rfl, rfl, g, h0, k⟩
theorem vc_pick : ∀ ws S Q, Closed S → F_pick ws S Q → d_law_pick (endsW S.length Q) (startW N_law_pick.length ws) S := by
  rintro ws S Q cl ⟨pl, R, many, rfl, rfl, g, hm, q⟩
  show d_law_pick _ [some (.ref 0), some (.int many)] _
  unfold d_law_pick
  have gl : pl.length ≤ 1000 := g
  cases pl with
  | nil =>
    walk_at "dl"
    exact endP cl rfl (q [] 0 (Nat.zero_le _) (Int.le_refl _) hm)
  | cons c pl =>
    walk_at "dl"
    split
    · rename_i h
      exact absurd h (by omega)
    · refine pop1_ok (j := 0) rfl rfl rfl (by simp at gl ⊢; omega) ?_
      walk_at "dl"
      refine ⟨hm, endP (pl' := pl) cl rfl (q pl _ (by show pl.length ≤ 1000; simp at gl; omega) (Int.emod_nonneg _ (by omega)) (Int.emod_lt_of_pos _ hm))⟩
/-! ### _law_pool -/
def F_pool : DSpec := fun ws S Q => ∃ ns : List Int, ws = [.lit (ns.map W.int), .int 700] ∧ S = [] ∧ ns.length ≤ 63 ∧ ∀ pl, Good pl → Q (.ref 0) (PB pl [])
theorem cp18 : CPow 10 18 := ⟨by decide, by decide, by decide⟩
theorem vc_pool : ∀ ws S Q, Closed S → F_pool ws S Q → d_law_pool (endsW S.length Q) (startW N_law_pool.length ws) S := by
  rintro ws S Q cl ⟨ns, rfl, rfl, hl, q⟩
  show d_law_pool _ [some _, some (.int 700), none, none, none, none, none, none] _
  unfold d_law_pool
  walk_at "dl"
  rw [show (63 : Int) = ((63 : Nat) : Int) from rfl, cut_to, List.take_of_length_le (by rw [List.length_map]; exact hl)]
  refine compW_inv (fun i acc S' => ∃ cells : List Int, S' = [.lst (ns.map W.int)] ∧ acc = cells.map W.int ∧ cells.length = i) ⟨[], rfl, rfl, rfl⟩ ?_ ?_
  · rintro i x acc S' hx ⟨cells, rfl, rfl, hlen⟩ N hN
    obtain ⟨n, hn, rfl, _, hi⟩ := map_get hx
    refine ⟨rfl, ?_⟩
    walk_at "dl"
    refine ⟨lt_sz (by omega), hN _ _ ⟨cells ++ [if n < 0 then -n else n], rfl, ?_, by simp [hlen]⟩⟩
    rw [List.map_append]
    rfl
  · rintro acc S' ⟨cells, rfl, rfl, hlen⟩
    rw [List.length_map] at hlen
    refine ⟨rfl, ?_⟩
    walk_at "dl"
    refine forW_inv (fun i env S' => ∃ state x4, S' = [.lst (ns.map W.int), .lst (cells.map W.int)] ∧ env = [some (.lit (ns.map W.int)), some (.int 700), some (.ref 1), some (.int state), x4, none, none, none] ∧ 0 ≤ state ∧ state < 998244353)
      ⟨38807, none, rfl, rfl, by decide, by decide⟩ ?_ ?_
    · rintro i x env S' hx ⟨state, x4, rfl, rfl, s0, s1⟩ N hN
      obtain ⟨n, hn, rfl, _, hi⟩ := map_get hx
      refine ⟨rfl, ?_⟩
      walk_at "dl"
      refine ⟨.inl (.inr ⟨by decide, by decide⟩), .inl (.inr ⟨by decide, by decide⟩), by decide, hN _ _ ⟨_, _, rfl, rfl, Int.emod_nonneg _ (by decide), Int.emod_lt_of_pos _ (by decide)⟩⟩
    · rintro env S' ⟨state, x4, rfl, rfl, s0, s1⟩
      refine ⟨rfl, ?_⟩
      walk_at "dl"
      refine ⟨by decide, by decide, ?_⟩
      refine forW_inv (fun i env S' => ∃ state x4 x6 x7 left row, S' = [.lst (ns.map W.int), .lst ((left : List Int).map W.int), .lst ((row : List Int).map W.int)] ∧ env = [some (.lit (ns.map W.int)), some (.int 700), some (.ref 1), some (.int state), x4, some (.ref 2), x6, x7] ∧ 0 ≤ state ∧ state < 2147483647 ∧ left.length = cells.length ∧ row.length = i)
        ⟨state, x4, none, none, cells, [], rfl, rfl, s0, by omega, rfl, rfl⟩ ?_ ?_
      · rintro i x env S' hx ⟨state, x4, x6, x7, left, row, rfl, rfl, s0, s1, hll, hrl⟩ N hN
        obtain ⟨hi, rfl⟩ := rng_get hx
        refine ⟨trivial, ?_⟩
        walk_at "dl"
        have add : ∀ (left' : List Int) (p : Int) (x4' : Option DL.W) (A : Int), 0 ≤ A → A < 2147483647 → left'.length = cells.length → row.length < sizeLine ∧ N [some (.lit (ns.map W.int)), some (.int 700), some (.ref 1), some (.int A), x4', some (.ref 2), some (.int (i : Int)), some (.int p)] [.lst (ns.map W.int), .lst (left'.map W.int), .lst (row.map W.int ++ [.int p])] := by
          intro left' p x4' A a0 a1 hl'
          refine ⟨lt_sz (by simp at hi; omega), hN _ _ ⟨A, x4', _, _, left', row ++ [p], ?_, rfl, a0, a1, hl', by simp [hrl]⟩⟩
          rw [List.map_append]
          rfl
        generalize hA : (state * 48017 + (i : Int) * 2903 + 5) % 2147483647 = A
        have a0 : 0 ≤ A := by rw [← hA]; exact Int.emod_nonneg _ (by decide)
        have a1 : A < 2147483647 := by rw [← hA]; exact Int.emod_lt_of_pos _ (by decide)
        refine ⟨.inl (.inr ⟨by decide, by decide⟩), .inl (.inr ⟨by decide, by decide⟩), by decide, wide_div (by decide) (b := 64) (by decide) (by decide) (by decide), .inl (.inl ⟨by omega, by omega⟩), wide_div (by decide) (b := 64) (by decide) (by decide) (by decide), by decide, ?_⟩
        split
        · rename_i hne
          have hpos : 0 < left.length := by
            cases left with
            | nil => simp at hne
            | cons _ _ => simp
          refine ⟨by omega, ?_⟩
          have e : (i : Int) % (left.length : Int) = ((i % left.length : Nat) : Int) := by omega
          have hm : i % left.length < left.length := Nat.mod_lt _ hpos
          rw [e]
          obtain ⟨c, hc, _, hc3⟩ := at_map (f := W.int) (xs := left) (r := ((i % left.length : Nat) : Int)) (by omega) (by omega)
          rw [e_ixAL (i := 1) (ws := left.map W.int) rfl hc3]
          walk_at "dl"
          refine ⟨cp18, ?_⟩
          split
          · refine ⟨by decide, wide_div (by decide) (b := 64) (by decide) (by decide) (by decide), by omega, ?_⟩
            rw [e, e_setAL (i := 1) (ws := left.map W.int) (j := i % left.length) rfl (by rw [List.length_map]; exact ixN_nat hm)]
            walk_at "dl"
            have es : (left.map W.int).set (i % left.length) (.int (c / 1039)) = (left.set (i % left.length) (c / 1039)).map W.int := (List.map_set ..).symm
            rw [es]
            exact add _ _ _ A a0 a1 (by rw [List.length_set]; exact hll)
          · walk_at "dl"
            exact add left _ _ A a0 a1 hll
        · exact add left _ _ A a0 a1 hll
      · rintro env S' ⟨state, x4, x6, x7, left, row, rfl, rfl, s0, s1, hll, hrl⟩
        refine ⟨trivial, ?_⟩
        rw [rng_len] at hrl
        walk_at "dl"
        exact Ends0.last (n := 0) (Q := Q) (S := []) (T := [.lst (ns.map W.int), .lst (left.map W.int), .lst (row.map W.int)]) (k := 2) (Nat.le_refl _) cl rfl (pureL_ints _) (q row (by show row.length ≤ 1000; rw [hrl]; decide))

end K66

namespace K66
open PySem PySem.Spec PyProof.Rows L2 TL DL KS
local macro_rules | `(tactic| walk_at "dl") => `(tactic| try simp (config := { decide := false }) only [e_seq, e_asg, e_nm, e_op, e_un, e_cb, e_c, e_var, e_ifs, e_tru, e_B, e_drop, e_bm, e_bm0, e_ret, e_retN, e_next, e_break, e_cont, e_nil, e_cons, e_tup, e_lst, e_sl, e_onone, e_osome, e_gsub, e_call, e_callk, e_and, e_or, e_not, e_andv, e_orv, e_notv, e_notU, e_isI, e_isS, e_isT, e_isR, e_isN, e_if, e_par, e_for, e_comp, e_iseq, e_rng1, e_rng3, e_zip, e_dictC, e_sc2, e_iseqF, e_yes, e_gtp, e_gc, e_gn0,
  e_addI, e_addS, e_addT, e_addL, e_i20, e_i2, e_neg, e_cmpI, e_cmpS, e_eqI, e_eqS, e_eqB, e_ixT, e_ixLit, e_ixL, e_ixS, e_set, e_ixAT, e_ixALit, e_ixAL, e_ixAS, e_ixAD, e_setAL, e_setAD, e_dict0, e_inAL, e_inAT, e_inAD, e_inAS, e_listAT, e_listALit, e_listAL, e_listAD, e_max2, e_extend, e_isalpha, e_enum, keyW, sz0, sz1, sz2, sz3, sz4, sz5, sz6, O.dk.injEq, e_slT, e_slLit, e_slS, e_slL, e_lenAS, e_lenAT, e_lenALit, e_lenAL, e_lenAD, e_lenS, e_lenT, e_lenLit, e_lenL, e_i1, e_intI, e_intB, e_strI, e_strS, e_listT, e_listLit, e_listL, e_tupleT, e_tupleL, e_append, e_pop0, e_tyL, e_tyS, e_truL, e_truT, e_truB, e_truI, e_truS, e_truN, e_seqT, e_seqLit, e_seqL, e_in, e_inT, e_isi, kit_ll, kit_ss, tyW_L, tyW_S, tyW_T, tyW_I, tyW_B, cut_to1, cut_to2, cut_from1, wipeW_nil, wipeW_cons, Nat.reduceAdd, eq_self, List.map_cons, List.map_nil,
  atI_0, atI_1, atI_2, atI_3, atI_4, atI_5, atI_end, ixN_0, ixN_1, ixN_11, ixN_last, List.map_append, List.map_cons, List.map_nil, get_app, get_app0, set_app, set_app0, List.cons_append, List.nil_append, List.append_assoc, List.length_append, List.length_cons, List.length_nil, Nat.zero_add, List.length_map, List.length_set,
  List.getElem?_cons_zero, List.getElem?_cons_succ, List.set_cons_zero, List.set_cons_succ, Option.some.injEq, exists_eq_left', exists_eq_left, exists_and_left, W.int.injEq, W.bl.injEq, W.str.injEq, W.tup.injEq, W.ref.injEq, O.lst.injEq, List.cons.injEq, reduceCtorEq, false_and, exists_false, or_false, false_or, true_and, and_true, decide_eq_true_eq, Bool.false_xor, Bool.true_xor, Bool.not_eq_true', decide_eq_false_iff_not, List.isEmpty_cons, List.isEmpty_nil, Bool.not_true, Bool.not_false, if_true, if_false, not_true_eq_false, not_false_eq_true, ne_eq, Bool.false_eq_true, reduceIte])


/-! ### _law_mixed -/
theorem perm_erase {α : Type} : ∀ {l : List α} {i : Nat} {y : α}, l[i]? = some y → (y :: l.eraseIdx i).Perm l
  | [], i, y, h => by cases h
  | x :: l, 0, y, h => by
    cases Option.some.inj h
    exact List.Perm.refl _
  | x :: l, i + 1, y, h => by
    have ih := perm_erase (l := l) (i := i) (y := y) h
    exact (List.Perm.swap x y _).trans (ih.cons x)
def SeqP (R : Sto) (w : DL.W) (us : List DL.W) : Prop := w = .tup us ∨ ∃ j, w = .ref (j + 1) ∧ R[j]? = some (.lst us)
def F_mixed : DSpec := fun ws S Q => ∃ pl R w us, ws = [.ref 0, w] ∧ S = PB pl R ∧ Good pl ∧ SeqP R w us ∧ W.pureL us = true ∧ us.length ≤ 1000 ∧ ∀ pl' vs, Good pl' → vs.Perm us → Q (.ref (R.length + 1)) (PB pl' (R ++ [.lst vs]))
theorem mixed_ok {pl : List Int} {R : Sto} {w : DL.W} {us : List DL.W} {Q : WK} (g : Good pl) (hs : SeqP R w us) (hp : W.pureL us = true) (hl : us.length ≤ 1000) (k : ∀ pl' vs, Good pl' → vs.Perm us → Q (.ref (R.length + 1)) (PB pl' (R ++ [.lst vs]))) : F_mixed [.ref 0, w] (PB pl R) Q :=
  ⟨pl, R, w, us, rfl, rfl, g, hs, hp, hl, k⟩
theorem vc_mixed : ∀ ws S Q, Closed S → F_mixed ws S Q → d_law_mixed F_pick (endsW S.length Q) (startW N_law_mixed.length ws) S := by
  rintro ws S Q cl ⟨pl, R, w, us, rfl, rfl, g, hs, hp, hl, q⟩
  show d_law_mixed F_pick _ [some (.ref 0), some w, none, none, none] _
  unfold d_law_mixed
  have main : ∀ D : DEnds, D.rt = Ends0 (R.length + 1) Q → forW (gNm 4)
      (dDrop (dBM "list" vAppend (dVar 3) (aCons (dBM "list" vPop1 (dVar 2) (aCons (dCall F_pick (aCons (dVar 0) (aCons (dCB vLenA (aCons (dVar 2) aNil)) aNil))) aNil)) aNil)))
      (fun _ => True) (rngW 0 us.length) { D with nx := dRet (dVar 3) D }
      [some (.ref 0), some w, some (.ref (R.length + 1)), some (.ref (R.length + 1 + 1)), none] (PB pl (R ++ [.lst us, .lst []])) := by
    intro D hD
    refine forW_inv (fun i env S' => ∃ pl rest acc x4, S' = PB pl (R ++ [.lst rest, .lst acc]) ∧ env = [some (.ref 0), some w, some (.ref (R.length + 1)), some (.ref (R.length + 1 + 1)), x4] ∧ Good pl ∧ (acc ++ rest).Perm us ∧ rest.length + i = us.length)
      ⟨pl, us, [], none, rfl, rfl, g, List.Perm.refl _, rfl⟩ ?_ ?_
    · rintro i x env S' hx ⟨pl2, rest, acc, x4, rfl, rfl, g2, hperm, hlen⟩ N hN
      obtain ⟨hi, rfl⟩ := rng_get hx
      refine ⟨trivial, ?_⟩
      walk_at "dl"
      refine pick_ok (many := (rest.length : Int)) g2 (by omega) fun pl3 r g3 r0 r1 => ?_
      have hr : r.toNat < rest.length := by omega
      refine pop1_ok (j := r.toNat) (zs := rest) (y := rest[r.toNat]) (by simp) (by omega) (List.getElem?_eq_getElem hr) (by omega) ?_
      have hacc : acc.length ≤ us.length := by
        rw [← hperm.length_eq, List.length_append]
        omega
      walk_at "dl"
      refine ⟨lt_sz (by omega), hN _ _ ⟨pl3, rest.eraseIdx r.toNat, acc ++ [rest[r.toNat]], _, rfl, rfl, g3, ?_, ?_⟩⟩
      · rw [List.append_assoc]
        refine List.Perm.trans (List.Perm.append_left acc ?_) hperm
        exact perm_erase (List.getElem?_eq_getElem hr)
      · rw [List.length_eraseIdx_of_lt hr]
        omega
    · rintro env S' ⟨pl2, rest, acc, x4, rfl, rfl, g2, hperm, hlen⟩
      rw [rng_len] at hlen
      have e0 : rest = [] := List.eq_nil_of_length_eq_zero (by omega)
      subst e0
      rw [List.append_nil] at hperm
      refine ⟨trivial, ?_⟩
      have hpa : W.pureL acc = true := by
        rw [pureL_all] at hp ⊢
        rw [List.all_eq_true] at hp ⊢
        exact fun x hx => hp x (hperm.mem_iff.mp hx)
      walk_at "dl"
      rw [hD]
      exact endPL (k := 1) cl rfl (by omega) hpa (q pl2 acc g2 hperm)
  rcases hs with rfl | ⟨j, rfl, hj⟩
  · walk_at "dl"
    refine ⟨by omega, by omega, ?_⟩
    exact main _ rfl
  · have hjl : j < R.length := (List.getElem?_eq_some_iff.mp hj).1
    walk_at "dl"
    have e1 : (PB pl R)[j + 1]? = some (.lst us) := hj
    have e2 : (PB pl (R ++ [O.lst us, .lst []]))[j + 1]? = some (.lst us) := by
      show (R ++ _)[j]? = _
      rw [List.getElem?_append_left hjl]
      exact hj
    rw [e_listAL (i := j + 1) (ws := us) e1]
    walk_at "dl"
    rw [e_lenAL (i := j + 1) (ws := us) e2]
    walk_at "dl"
    refine ⟨by omega, by omega, ?_⟩
    exact main _ rfl
/-! ### _law_names -/
def key2 (x : Str) : Option Nat := (tl x)[1]?
def KeyOk (names : List Str) : Prop := ∀ (k : Nat) (x : Str), names[k]? = some x → (1 ≤ k → key2 x = some (48 + k)) ∧ (k = 0 → ∀ j, 1 ≤ j → j < 10 → key2 x ≠ some (48 + j))
theorem KeyOk.nodup {names : List Str} (h : KeyOk names) (hl : names.length ≤ 8) : names.Nodup := by
  rw [List.nodup_iff_pairwise_ne, List.pairwise_iff_getElem]
  intro i j hi hj hij e
  have h1 := h i _ (List.getElem?_eq_getElem hi)
  have h2 := (h j _ (List.getElem?_eq_getElem hj)).1 (by omega)
  by_cases h0 : i = 0
  · exact h1.2 h0 j (by omega) (by omega) (by rw [e]; exact h2)
  · have h3 := h1.1 (by omega)
    rw [e, h2] at h3
    have := Option.some.inj h3
    omega
theorem KeyOk.snoc {names : List Str} {x : Str} (h : KeyOk names) (h1 : 1 ≤ names.length → key2 x = some (48 + names.length)) (h0 : names.length = 0 → ∀ j, 1 ≤ j → j < 10 → key2 x ≠ some (48 + j)) : KeyOk (names ++ [x]) := by
  intro k y hy
  by_cases hk : k < names.length
  · rw [List.getElem?_append_left hk] at hy
    exact h k y hy
  · rw [List.getElem?_append_right (by omega)] at hy
    cases e : k - names.length with
    | zero =>
      rw [e] at hy
      obtain rfl := Option.some.inj hy
      have ek : k = names.length := by omega
      subst ek
      exact ⟨h1, h0⟩
    | succ n =>
      rw [e] at hy
      cases hy
theorem dig_cps : ∀ k : Nat, k < 10 → tl (toString ((k : Nat) : Int) : Str) = [48 + k] := by decide +kernel
theorem key2_dig {l : Nat} {k : Nat} (hk : k < 10) (t : Str) : key2 ((⟨#[l]⟩ : Str) ++ (toString ((k : Nat) : Int) : Str) ++ t) = some (48 + k) := by
  unfold key2
  rw [tl_append, tl_append, dig_cps k hk]
  rfl
theorem key2_dig0 {l : Nat} {k : Nat} (hk : k < 10) : key2 ((⟨#[l]⟩ : Str) ++ (toString ((k : Nat) : Int) : Str)) = some (48 + k) := by
  unfold key2
  rw [tl_append, dig_cps k hk]
  rfl
def tails : List Str := [Str.ofString "", Str.ofString "", Str.ofString "e", Str.ofString "k0", Str.ofString "ord", Str.ofString "x", Str.ofString "zz", Str.ofString "long"]
theorem tails_ok : ∀ t ∈ tails, t.length ≤ 4 ∧ ∀ j, j < 10 → (tl t)[0]? ≠ some (48 + j) := by decide +kernel
theorem key2_tail {l : Nat} {t : Str} (ht : t ∈ tails) {j : Nat} (hj : j < 10) : key2 ((⟨#[l]⟩ : Str) ++ Str.ofString "" ++ t) ≠ some (48 + j) := by
  unfold key2
  rw [tl_append, tl_append]
  exact (tails_ok t ht).2 j hj
theorem nuxm_at {r : Int} (h0 : 0 ≤ r) (h1 : r < 4) : ∃ c, atI (Str.ofString "nuxm").cps.toList r = some c := by
  have e : r = ((r.toNat : Nat) : Int) := by omega
  have hl : r.toNat < (Str.ofString "nuxm").cps.toList.length := by
    have : (Str.ofString "nuxm").cps.toList.length = 4 := by decide +kernel
    omega
  exact ⟨_, (congrArg _ e).trans (atI_nat (List.getElem?_eq_getElem hl))⟩
theorem lett_at {r : Int} (h0 : 0 ≤ r) (h1 : r < 20) : ∃ c, atI (Str.ofString "qbzfhkmvwxyjuagtdrsn").cps.toList r = some c := by
  have e : r = ((r.toNat : Nat) : Int) := by omega
  have hl : r.toNat < (Str.ofString "qbzfhkmvwxyjuagtdrsn").cps.toList.length := by
    have : (Str.ofString "qbzfhkmvwxyjuagtdrsn").cps.toList.length = 20 := by decide +kernel
    omega
  exact ⟨_, (congrArg _ e).trans (atI_nat (List.getElem?_eq_getElem hl))⟩
theorem nuxm_len : (Str.ofString "nuxm").length ≤ sizeLine := by decide +kernel
theorem lett_len : (Str.ofString "qbzfhkmvwxyjuagtdrsn").length ≤ sizeLine := by decide +kernel
theorem len_one (c : Nat) : (⟨#[c]⟩ : Str).length = 1 := rfl
theorem len_app (a b : Str) : (a ++ b).length = a.length + b.length := by rw [len_tl, tl_append, List.length_append, ← len_tl, ← len_tl]
theorem len_dig : ∀ k : Nat, k < 10 → (toString ((k : Nat) : Int) : Str).length = 1 := by decide +kernel
def F_names : DSpec := fun ws S Q => ∃ pl R many, ws = [.ref 0, .int many] ∧ S = PB pl R ∧ Good pl ∧ 1 ≤ many ∧ many ≤ 8 ∧ ∀ pl' names, Good pl' → names.Nodup → names.length = many.toNat → Q (.ref (R.length + 1)) (PB pl' (R ++ [stro names]))
theorem names_ok {pl : List Int} {R : Sto} {many : Int} {Q : WK} (g : Good pl) (h0 : 1 ≤ many) (h1 : many ≤ 8) (k : ∀ pl' names, Good pl' → names.Nodup → names.length = many.toNat → Q (.ref (R.length + 1)) (PB pl' (R ++ [stro names]))) : F_names [.ref 0, .int many] (PB pl R) Q :=
  ⟨pl, R, many, rfl, rfl, g, h0, h1, k⟩
theorem log_small {k : Nat} (h : k < 10) : (k : Int).natAbs.log2 < 1920 := PySem.Flt.log2_lt_of (by decide) (Nat.lt_of_lt_of_le (show k < 2 ^ 7 by omega) (Nat.pow_le_pow_right (by decide) (by decide)))
theorem vc_names : ∀ ws S Q, Closed S → F_names ws S Q → d_law_names F_pick (endsW S.length Q) (startW N_law_names.length ws) S := by
  rintro ws S Q cl ⟨pl, R, many, rfl, rfl, g, h0, h1, q⟩
  show d_law_names F_pick _ [some (.ref 0), some (.int many), none, none, none, none] _
  unfold d_law_names
  walk_at "dl"
  refine pick_ok g (by decide) fun pl2 r g2 r0 r1 => ?_
  obtain ⟨l, hl⟩ := nuxm_at r0 r1
  rw [e_ixAS hl]
  refine ⟨nuxm_len, ?_⟩
  walk_at "dl"
  refine pick_ok g2 (by decide) fun pl3 r2 g3 _ _ => ?_
  walk_at "dl"
  split
  · refine ⟨by omega, by omega, ?_⟩
    refine compW_inv (fun i acc S' => ∃ names : List Str, S' = PB pl3 R ∧ acc = names.map W.str ∧ names.length = i ∧ KeyOk names) ⟨[], rfl, rfl, rfl, fun k x h => by cases h⟩ ?_ ?_
    · rintro i x acc S' hx ⟨names, rfl, rfl, hlen, hk⟩ N hN
      obtain ⟨hi, rfl⟩ := rng_get hx
      refine ⟨trivial, ?_⟩
      walk_at "dl"
      refine ⟨log_small (by omega), le_sz (by rw [len_one, len_dig i (by omega)]; decide), lt_sz (by omega), hN _ _ ⟨names ++ [(⟨#[l]⟩ : Str) ++ (toString ((i : Nat) : Int) : Str)], rfl, ?_, by simp [hlen], hk.snoc (fun _ => ?_) fun h j hj hj2 => ?_⟩⟩
      · rw [List.map_append]
        rfl
      · rw [hlen]
        exact key2_dig0 (by omega)
      · rw [hlen] at h
        subst h
        rw [key2_dig0 (by omega)]
        intro e
        have := Option.some.inj e
        omega
    · rintro acc S' ⟨names, rfl, rfl, hlen, hk⟩
      rw [rng_len] at hlen
      refine ⟨trivial, ?_⟩
      exact endPL (T := [stro names]) (k := 0) cl rfl (by first | rfl | (simp; done) | omega) (pureL_strs _) (q pl3 names g3 (hk.nodup (by omega)) hlen)
  · refine ⟨by decide, by omega, by omega, ?_⟩
    refine compW_inv (fun i acc S' => ∃ pl names, S' = PB pl (R ++ [stro tails]) ∧ Good pl ∧ acc = (names : List Str).map W.str ∧ names.length = i ∧ KeyOk names) ⟨pl3, [], rfl, g3, rfl, rfl, fun k x h => by cases h⟩ ?_ ?_
    · rintro i x acc S' hx ⟨pl4, names, rfl, g4, rfl, hlen, hk⟩ N hN
      obtain ⟨hi, rfl⟩ := rng_get hx
      refine ⟨trivial, ?_⟩
      walk_at "dl"
      refine pick_ok g4 (by decide) fun pl5 r3 g5 a0 a1 => ?_
      obtain ⟨l2, hl2⟩ := lett_at a0 a1
      rw [e_ixAS hl2]
      refine ⟨lett_len, ?_⟩
      walk_at "dl"
      have fin : ∀ nm : Str, nm.length ≤ 2 → (∀ t ∈ tails, KeyOk (names ++ [nm ++ t])) → F_pick [W.ref 0, W.int 8] (PB pl5 (R ++ [stro tails])) fun y S2 =>
          vIxA (W.ref (R.length + 1)) y S2 fun y S2 => vAdd (W.str nm) y S2 fun y S4 => names.length < sizeLine ∧ N (names.map W.str ++ [y]) S4 := by
        intro nm hnm hkey
        refine pick_ok g5 (by decide) fun pl6 r4 g6 b0 b1 => ?_
        obtain ⟨t, ht, _, ht3⟩ := at_map (f := W.str) (xs := tails) (r := r4) b0 (by have : tails.length = 8 := rfl; omega)
        rw [e_ixAL (i := R.length + 1) (ws := tails.map W.str) (show (R ++ [stro tails])[R.length]? = _ from get_app0) ht3]
        walk_at "dl"
        have tl4 := (tails_ok t ht).1
        refine ⟨le_sz (by omega), lt_sz (by omega), hN _ _ ⟨pl6, names ++ [nm ++ t], rfl, g6, ?_, by simp [hlen], hkey t ht⟩⟩
        rw [List.map_append]
        rfl
      split
      · rename_i hne
        have hi1 : 1 ≤ i := by
          rcases Nat.eq_zero_or_pos i with h | h
          · subst h
            exact absurd hne (by decide)
          · exact h
        refine ⟨log_small (by omega), le_sz (by rw [len_one, len_dig i (by omega)]; decide), fin _ (by rw [len_app, len_one, len_dig i (by omega)]; decide) fun t ht => hk.snoc (fun _ => ?_) fun h => absurd h (by omega)⟩
        rw [hlen]
        exact key2_dig (by omega) t
      · rename_i he
        have hi0 : i = 0 := by
          rcases Nat.eq_zero_or_pos i with h | h
          · exact h
          · refine absurd ?_ he
            simp
            omega
        subst hi0
        exact ⟨le_sz (by rw [len_one]; decide), fin _ (by rw [len_app, len_one]; decide) fun t ht => hk.snoc (fun h => absurd h (by omega)) fun _ j _ hj => key2_tail ht hj⟩
    · rintro acc S' ⟨pl4, names, rfl, g4, rfl, hlen, hk⟩
      rw [rng_len] at hlen
      refine ⟨trivial, ?_⟩
      walk_at "dl"
      exact endPL (T := [stro tails, stro names]) (k := 1) cl rfl (by first | rfl | (simp; done) | omega) (pureL_strs _) (q pl4 names g4 (hk.nodup (by omega)) hlen)

end K66

namespace K66
open PySem PySem.Spec PyProof.Rows L2 TL DL KS
local macro_rules | `(tactic| walk_at "dl") => `(tactic| try simp (config := { decide := false }) only [e_seq, e_asg, e_nm, e_op, e_un, e_cb, e_c, e_var, e_ifs, e_tru, e_B, e_drop, e_bm, e_bm0, e_ret, e_retN, e_next, e_break, e_cont, e_nil, e_cons, e_tup, e_lst, e_sl, e_onone, e_osome, e_gsub, e_call, e_callk, e_and, e_or, e_not, e_andv, e_orv, e_notv, e_notU, e_isI, e_isS, e_isT, e_isR, e_isN, e_if, e_par, e_for, e_comp, e_iseq, e_rng1, e_rng3, e_zip, e_dictC, e_sc2, e_iseqF, e_yes, e_gtp, e_gc, e_gn0,
  e_addI, e_addS, e_addT, e_addL, e_i20, e_i2, e_neg, e_cmpI, e_cmpS, e_eqI, e_eqS, e_eqB, e_ixT, e_ixLit, e_ixL, e_ixS, e_set, e_ixAT, e_ixALit, e_ixAL, e_ixAS, e_ixAD, e_setAL, e_setAD, e_dict0, e_inAL, e_inAT, e_inAD, e_inAS, e_listAT, e_listALit, e_listAL, e_listAD, e_max2, e_extend, e_isalpha, e_enum, keyW, sz0, sz1, sz2, sz3, sz4, sz5, sz6, O.dk.injEq, e_slT, e_slLit, e_slS, e_slL, e_lenAS, e_lenAT, e_lenALit, e_lenAL, e_lenAD, e_lenS, e_lenT, e_lenLit, e_lenL, e_i1, e_intI, e_intB, e_strI, e_strS, e_listT, e_listLit, e_listL, e_tupleT, e_tupleL, e_append, e_pop0, e_tyL, e_tyS, e_truL, e_truT, e_truB, e_truI, e_truS, e_truN, e_seqT, e_seqLit, e_seqL, e_in, e_inT, e_isi, kit_ll, kit_ss, tyW_L, tyW_S, tyW_T, tyW_I, tyW_B, cut_to1, cut_to2, cut_from1, wipeW_nil, wipeW_cons, Nat.reduceAdd, eq_self, List.map_cons, List.map_nil,
  atI_0, atI_1, atI_2, atI_3, atI_4, atI_5, atI_end, ixN_0, ixN_1, ixN_11, ixN_last, List.map_append, List.map_cons, List.map_nil, get_app, get_app0, set_app, set_app0, List.cons_append, List.nil_append, List.append_assoc, List.length_append, List.length_cons, List.length_nil, Nat.zero_add, List.length_map, List.length_set,
  List.getElem?_cons_zero, List.getElem?_cons_succ, List.set_cons_zero, List.set_cons_succ, Option.some.injEq, exists_eq_left', exists_eq_left, exists_and_left, W.int.injEq, W.bl.injEq, W.str.injEq, W.tup.injEq, W.ref.injEq, O.lst.injEq, List.cons.injEq, reduceCtorEq, false_and, exists_false, or_false, false_or, true_and, and_true, decide_eq_true_eq, Bool.false_xor, Bool.true_xor, Bool.not_eq_true', decide_eq_false_iff_not, List.isEmpty_cons, List.isEmpty_nil, Bool.not_true, Bool.not_false, if_true, if_false, not_true_eq_false, not_false_eq_true, ne_eq, Bool.false_eq_true, reduceIte])


/-! ### comprehensions without side effects -/
theorem get_old {S G : Sto} {j : Nat} {o : O} (h : S[j]? = some o) : (S ++ G)[j]? = some o := by
  rw [List.getElem?_append_left (List.getElem?_eq_some_iff.mp h).1]
  exact h
section
variable {α : Type} {f h : α → DL.W} {p : α → Bool} {xs : List α} {i : Nat} {tt : DT} {te : DE} {vs : List Nat} {still : Sto → Prop} {env : Slots} {Q : WK} {S : Sto}
theorem compN (st : still S) (hl : xs.length ≤ 99998) (ht : ∀ a ∈ xs, ∀ QT : Bool → Sto → Prop, QT (p a) S → tt ((wipeW env vs).set i (some (f a))) S QT)
    (he : ∀ a ∈ xs, p a = true → ∀ K : DL.W → Sto → Prop, K (h a) S → te ((wipeW env vs).set i (some (f a))) S K) (q : Q (.ref S.length) (S ++ [.lst ((xs.filter p).map h)])) : compW (gNm i) tt te vs still env Q (xs.map f) [] S := by
  refine compW_inv (fun k acc S' => S' = S ∧ acc = ((xs.take k).filter p).map h) ⟨rfl, by simp⟩ ?_ ?_
  · rintro k x acc S' hx ⟨rfl, rfl⟩ N hN
    obtain ⟨a, ha, rfl, hm, hk⟩ := map_get hx
    refine ⟨st, ?_⟩
    show tt _ _ _
    refine ht a hm _ ?_
    have e : xs.take (k + 1) = xs.take k ++ [a] := by rw [List.take_add_one, ha]; rfl
    cases hp : p a with
    | true =>
      rw [if_pos rfl]
      refine he a hm hp _ ⟨?_, hN _ _ ⟨rfl, ?_⟩⟩
      · refine lt_sz ?_
        rw [List.length_map]
        have := List.length_filter_le p (xs.take k)
        rw [List.length_take] at this
        omega
      · rw [e, List.filter_append, List.map_append, List.filter_cons_of_pos hp]
        rfl
    | false =>
      rw [if_neg Bool.false_ne_true]
      refine hN _ _ ⟨rfl, ?_⟩
      rw [e, List.filter_append, List.map_append, List.filter_cons_of_neg (by rw [hp]; exact Bool.false_ne_true)]
      simp
  · rintro acc S' ⟨rfl, rfl⟩
    rw [List.length_map, List.take_length]
    exact ⟨st, q⟩
theorem compM (st : still S) (hl : xs.length ≤ 99998) (he : ∀ a ∈ xs, ∀ K : DL.W → Sto → Prop, K (h a) S → te ((wipeW env vs).set i (some (f a))) S K) (q : Q (.ref S.length) (S ++ [.lst (xs.map h)])) : compW (gNm i) dYes te vs still env Q (xs.map f) [] S := by
  refine compN (p := fun _ => true) (h := h) st hl (fun a _ QT k => k) (fun a ha _ => he a ha) ?_
  rw [List.filter_eq_self.mpr fun _ _ => rfl]
  exact q
/-- the same where the body leaves lists behind -/
theorem compG (st : ∀ G, still (S ++ G)) (hl : xs.length ≤ 99998) (he : ∀ a ∈ xs, ∀ (G : Sto) (K : DL.W → Sto → Prop), (∀ G', K (h a) (S ++ G')) → te ((wipeW env vs).set i (some (f a))) (S ++ G) K) (q : ∀ G, Q (.ref (S ++ G).length) (S ++ G ++ [.lst (xs.map h)])) : compW (gNm i) dYes te vs still env Q (xs.map f) [] S := by
  refine compW_inv (fun k acc S' => (∃ G, S' = S ++ G) ∧ acc = (xs.take k).map h) ⟨⟨[], by simp⟩, by simp⟩ ?_ ?_
  · rintro k x acc S' hx ⟨⟨G, rfl⟩, rfl⟩ N hN
    obtain ⟨a, ha, rfl, hm, hk⟩ := map_get hx
    refine ⟨st G, ?_⟩
    show te _ _ _
    have e : xs.take (k + 1) = xs.take k ++ [a] := by rw [List.take_add_one, ha]; rfl
    refine he a hm G _ fun G' => ⟨?_, hN _ _ ⟨⟨G', rfl⟩, ?_⟩⟩
    · refine lt_sz ?_
      rw [List.length_map, List.length_take]
      omega
    · rw [e, List.map_append]
      rfl
  · rintro acc S' ⟨⟨G, rfl⟩, rfl⟩
    rw [List.length_map, List.take_length]
    exact ⟨st G, q G⟩
end
theorem any_ok {S : Sto} {Q : WK} {i : Nat} {g : List Bool → Bool} {α : Type} {xs : List α} {b : α → Bool} (h : S[i]? = some (.lst (xs.map fun a => W.bl (b a)))) (q : Q (.bl (g (xs.map b))) S) : vAny g [.ref i] S Q :=
  ⟨xs.map b, by rw [h, List.map_map]; rfl, q⟩
abbrev famW (fam : Fam) : DL.W := .tup (fam.map tupS)
theorem inW_dec {x : Str} {xs : List Str} : inW (.str x) (xs.map W.str) = decide (x ∈ xs) := inW_strs x xs
/-! ### _law_hits_all -/
structure OkFam (fam : Fam) : Prop where
  len : fam.length ≤ 50
  asc : ∀ m ∈ fam, Asc m
  U : ∃ U : List Str, U.Nodup ∧ U.length ≤ 8 ∧ ∀ m ∈ fam, ∀ x ∈ m, x ∈ U
theorem OkFam.short {fam : Fam} (ok : OkFam fam) {m : List Str} (hm : m ∈ fam) : m.length ≤ 8 := by
  obtain ⟨U, h1, h2, h3⟩ := ok.U
  exact Nat.le_trans (List.Nodup.length_le_of_subset (ok.asc m hm).nodup (h3 m hm)) h2
def F_hits : DSpec := fun ws S Q => ∃ c fam, ws = [tupS c, famW fam] ∧ OkFam fam ∧ c.length ≤ 8 ∧ Q (.bl (hitS fam c)) S
theorem hits_ok {c : List Str} {fam : Fam} {S : Sto} {Q : WK} (ok : OkFam fam) (hc : c.length ≤ 8) (q : Q (.bl (hitS fam c)) S) : F_hits [tupS c, famW fam] S Q := ⟨c, fam, rfl, ok, hc, q⟩
theorem end_drop {S G : Sto} {Q : WK} {w : DL.W} (cl : Closed S) (hp : w.pure = true) (q : Q w S) : Ends0 S.length Q w (S ++ G) := Ends0.drop G (Nat.le_refl _) cl (pure_bnd _ _ hp) q
theorem vc_hits : ∀ ws S Q, Closed S → F_hits ws S Q → d_law_hits_all (endsW S.length Q) (startW N_law_hits_all.length ws) S := by
  rintro ws S Q cl ⟨c, fam, rfl, ok, hc, q⟩
  show d_law_hits_all _ [some (tupS c), some (famW fam), none, none] _
  unfold d_law_hits_all famW
  walk_at "dl"
  refine forW_inv (fun i env S' => ∃ x2 G, S' = S ++ G ∧ env = [some (tupS c), some (.tup (fam.map tupS)), x2, none] ∧ ∀ m ∈ fam.take i, ∃ x ∈ m, x ∈ c) ⟨none, [], by simp, rfl, by simp⟩ ?_ ?_
  · rintro i x env S' hx ⟨x2, G, rfl, rfl, hh⟩ N hN
    obtain ⟨m, hm, rfl, hmem, _⟩ := map_get hx
    refine ⟨trivial, ?_⟩
    unfold tupS
    walk_at "dl"
    refine compM (h := fun x => W.bl (decide (x ∈ m))) trivial (by omega) (fun a ha K k => ?_) ?_
    · walk_at "dl"
      refine ⟨rfl, flW_strs m, ?_⟩
      rw [inW_dec]
      exact k
    · refine any_ok (b := fun x => decide (x ∈ m)) get_app0 ?_
      walk_at "dl"
      rw [List.any_map]
      have snoc : fam.take (i + 1) = fam.take i ++ [m] := by rw [List.take_add_one, hm]; rfl
      split
      · rename_i hno
        refine end_drop cl rfl ?_
        have e : hitS fam c = false := by
          refine decide_eq_false fun hall => ?_
          obtain ⟨x, hx, hxc⟩ := hall m hmem
          rw [List.any_eq_false] at hno
          exact hno x hxc (decide_eq_true hx)
        rw [e] at q
        exact q
      · rename_i hyes
        refine hN _ _ ⟨_, _, rfl, rfl, fun m' hm' => ?_⟩
        rw [snoc, List.mem_append, List.mem_singleton] at hm'
        rcases hm' with h | rfl
        · exact hh m' h
        · rw [Bool.not_eq_false, List.any_eq_true] at hyes
          obtain ⟨x, hxc, hx⟩ := hyes
          exact ⟨x, of_decide_eq_true hx, hxc⟩
  · rintro env S' ⟨x2, G, rfl, rfl, hh⟩
    rw [List.length_map, List.take_length] at hh
    refine ⟨trivial, ?_⟩
    walk_at "dl"
    refine end_drop cl rfl ?_
    have e : hitS fam c = true := decide_eq_true hh
    rw [e] at q
    exact q
/-! ### _law_least_sets -/
def F_least : DSpec := fun ws S Q => ∃ fam, ws = [famW fam] ∧ OkFam fam ∧ ∀ L, IsLeast fam L → Q (.ref S.length) (S ++ [.lst (L.map tupS)])
theorem lsts_len {N : List Str} (h : N.length ≤ 8) : (pw N).length ≤ 256 := by
  rw [pw_len]
  exact Nat.le_trans (Nat.pow_le_pow_right (by decide) h) (by decide)
theorem pw_len_mem {N c : List Str} (h : c ∈ pw N) : c.length ≤ N.length := ((mem_pw N c).mp h).length_le
theorem wlen_tupS (c : List Str) : wlen (tupS c) = c.length := List.length_map _
/-- the names of a family -/
structure NamesOf (fam : Fam) (names : List Str) : Prop where
  nd : names.Nodup
  mem : ∀ x, x ∈ names ↔ ∃ m ∈ fam, x ∈ m
theorem NamesOf.len {fam : Fam} {names : List Str} (h : NamesOf fam names) (ok : OkFam fam) : names.length ≤ 8 := by
  obtain ⟨U, h1, h2, h3⟩ := ok.U
  refine Nat.le_trans (List.Nodup.length_le_of_subset h.nd fun x hx => ?_) h2
  obtain ⟨m, hm, hxm⟩ := (h.mem x).mp hx
  exact h3 m hm x hxm
theorem names_snoc {fam : Fam} {names m : List Str} (h : NamesOf fam names) (hm : m.Nodup) : NamesOf (fam ++ [m]) (names ++ m.filter fun x => decide (x ∉ names)) := by
  refine ⟨List.nodup_append.mpr ⟨h.nd, hm.filter _, fun a ha b hb e => ?_⟩, fun x => ?_⟩
  · have := of_decide_eq_true (List.mem_filter.mp hb).2
    exact this (e ▸ ha)
  · rw [List.mem_append, List.mem_filter, decide_eq_true_eq]
    constructor
    · rintro (h1 | ⟨h1, _⟩)
      · obtain ⟨m', hm', hx⟩ := (h.mem x).mp h1
        exact ⟨m', List.mem_append_left _ hm', hx⟩
      · exact ⟨m, by simp, h1⟩
    · rintro ⟨m', hm', hx⟩
      rcases List.mem_append.mp hm' with h1 | h1
      · exact .inl ((h.mem x).mpr ⟨m', h1, hx⟩)
      · rw [List.mem_singleton.mp h1] at hx
        by_cases hn : x ∈ names
        · exact .inl hn
        · exact .inr ⟨hx, hn⟩
theorem take_snoc {α : Type} {xs : List α} {i : Nat} {a : α} (h : xs[i]? = some a) : xs.take (i + 1) = xs.take i ++ [a] := by
  rw [List.take_add_one, h]
  rfl
/-- names = []; for one in family: names.extend([name for name in one if name not in names]) -/
theorem names_loop {fam : Fam} (ok : OkFam fam) {S : Sto} {D : DEnds} {i1 i2 i4 : Nat} {still : Sto → Prop} (hst : ∀ G, still (S ++ G))
    {env : Slots} (I : Slots → Prop) (h0 : I env)
    (body : ∀ (m names : List Str) (G : Sto) (env : Slots) (N : Slots → Sto → Prop), m ∈ fam → names.length ≤ 8 → I env → (∀ env' G', I env' → N env' (S ++ .lst ((names ++ m.filter fun x => decide (x ∉ names)).map W.str) :: G')) →
      gNm i2 (tupS m) env (S ++ stro names :: G) fun env2 S2 => (dDrop (dBM "list" vExtend (dVar i1) (aCons (dComp (iSeq (dVar i2)) (gNm i4) (dB (dOp (vInA true) (dVar i4) (dVar i1))) (dVar i4) [i4]) aNil))) { D with nx := N, ct := N, bk := D.nx } env2 S2)
    (done : ∀ (names : List Str) (G : Sto) (env : Slots), NamesOf fam names → I env → D.nx env (S ++ stro names :: G)) :
    forW (gNm i2) (dDrop (dBM "list" vExtend (dVar i1) (aCons (dComp (iSeq (dVar i2)) (gNm i4) (dB (dOp (vInA true) (dVar i4) (dVar i1))) (dVar i4) [i4]) aNil))) still (fam.map tupS) D env (S ++ [stro []]) := by
  refine forW_inv (fun i env S' => ∃ names G, S' = S ++ stro names :: G ∧ I env ∧ NamesOf (fam.take i) names) ⟨[], [], rfl, h0, List.nodup_nil, fun x => by simp⟩ ?_ ?_
  · rintro i x env S' hx ⟨names, G, rfl, hI, hn⟩ N hN
    obtain ⟨m, hm, rfl, hmem, _⟩ := map_get hx
    refine ⟨hst _, body m names G env N hmem ?_ hI fun env' G' hI' => hN _ _ ⟨_, G', rfl, hI', ?_⟩⟩
    · refine NamesOf.len hn ⟨?_, fun m' h => ok.asc m' (List.mem_of_mem_take h), ?_⟩
      · rw [List.length_take]
        have := ok.len
        omega
      · obtain ⟨U, h1, h2, h3⟩ := ok.U
        exact ⟨U, h1, h2, fun m' h => h3 m' (List.mem_of_mem_take h)⟩
    · rw [take_snoc hm]
      exact names_snoc hn (ok.asc m hmem).nodup
  · rintro env S' ⟨names, G, rfl, hI, hn⟩
    rw [List.length_map, List.take_length] at hn
    exact ⟨hst _, done names G env hn hI⟩
def bodySets : DS := dAsg (dOp vAdd (dVar 3) (dComp (iSeq (dVar 3)) (gNm 6) dYes (dOp vAdd (dVar 6) (dTup (aCons (dVar 4) aNil))) [6])) (gNm 3)
def bodyFound (F_law_hits_all : DSpec) : DS :=
(dIfS (dAndT (dNotT (dTru (dCB (vAny fun bs => bs.any id) (aCons (dComp (iSeq (dVar 5)) (gNm 7) dYes (dCB (vAny fun bs => bs.all id) (aCons (dComp (iSeq (dVar 7)) (gNm 4) dYes (dOp (vInA false) (dVar 4) (dVar 6)) [4]) aNil)) [7]) aNil)))) (dTru (dCall F_law_hits_all (aCons (dVar 6) (aCons (dVar 0) aNil)))))
(dDrop (dBM "list" vAppend (dVar 5) (aCons (dVar 6) aNil)))
dNext)
theorem sets_loop {N : List Str} (hN : N.length ≤ 8) {S1 : Sto} {D : DEnds} {x0 x1 x2 x4 x5 : Option DL.W} {still : Sto → Prop} (hst : ∀ G, still (S1 ++ G))
    (done : ∀ (j : Nat) (G : Sto) (x4 : Option DL.W), (S1 ++ G)[j]? = some (.lst ((pw N).map tupS)) → D.nx [x0, x1, x2, some (.ref j), x4, x5, none, none] (S1 ++ G)) :
    forW (gNm 4) bodySets still (N.map W.str) D [x0, x1, x2, some (.ref S1.length), x4, x5, none, none] (S1 ++ [.lst [.tup []]]) := by
  refine forW_inv (fun i env S' => ∃ j G x4, S' = S1 ++ G ∧ env = [x0, x1, x2, some (.ref j), x4, x5, none, none] ∧ (S1 ++ G)[j]? = some (.lst ((pw (N.take i)).map tupS))) ⟨S1.length, [.lst [.tup []]], x4, rfl, rfl, get_app0⟩ ?_ ?_
  · rintro i x env S' hx ⟨j, G, x4, rfl, rfl, hj⟩ N2 hN2
    obtain ⟨a, ha, rfl, _, _⟩ := map_get hx
    refine ⟨hst _, ?_⟩
    have hl : (N.take i).length ≤ 8 := by rw [List.length_take]; omega
    have hpl := lsts_len hl
    unfold bodySets
    walk_at "dl"
    rw [e_seqL hj]
    refine compM (f := tupS) (h := fun c => tupS (c ++ [a])) (xs := pw (N.take i)) hj (by omega) (fun c hc K k => ?_) ?_
    · have := pw_len_mem hc
      unfold tupS
      walk_at "dl"
      refine ⟨le_sz (by omega), ?_⟩
      have e : tupS (c ++ [a]) = .tup (c.map W.str ++ [W.str a]) := by unfold tupS; rw [List.map_append]; rfl
      rw [← e]
      exact k
    · rw [e_addL (a := (pw (N.take i)).map tupS) (get_old hj) get_app0]
      refine ⟨le_sz (by simp; omega), hN2 _ _ ⟨(S1 ++ G ++ [O.lst ((pw (N.take i)).map fun c => tupS (c ++ [a]))]).length, G ++ [O.lst ((pw (N.take i)).map fun c => tupS (c ++ [a])), .lst ((pw (N.take i)).map tupS ++ (pw (N.take i)).map fun c => tupS (c ++ [a]))], _, by simp, rfl, ?_⟩⟩
      have e : S1 ++ (G ++ [O.lst ((pw (N.take i)).map fun c => tupS (c ++ [a])), .lst ((pw (N.take i)).map tupS ++ (pw (N.take i)).map fun c => tupS (c ++ [a]))]) = (S1 ++ G ++ [O.lst ((pw (N.take i)).map fun c => tupS (c ++ [a]))]) ++ [.lst ((pw (N.take i)).map tupS ++ (pw (N.take i)).map fun c => tupS (c ++ [a]))] := by simp
      rw [e, get_app0, take_snoc ha, pw_snoc, List.map_append, List.map_map]
      rfl
  · rintro env S' ⟨j, G, x4, rfl, rfl, hj⟩
    rw [List.length_map, List.take_length] at hj
    exact ⟨hst _, done j G x4 hj⟩
theorem hitS_len {fam : Fam} {c : List Str} : True := trivial
theorem found_loop {fam : Fam} (ok : OkFam fam) {U : Fam} (hU : U.length ≤ 256) (hc : ∀ c ∈ U, c.length ≤ 8) {S1 : Sto} {D : DEnds} {x1 x2 x3 x4 x6 : Option DL.W} {still : Sto → Prop} {G0 : Sto} (hst : ∀ cur G, still (S1 ++ .lst cur :: (G0 ++ G)))
    (done : ∀ (G : Sto) (x4 x6 : Option DL.W), D.nx [some (famW fam), x1, x2, x3, x4, some (.ref S1.length), x6, none] (S1 ++ .lst ((scan (hitS fam) subS U).map tupS) :: (G0 ++ G))) :
    forW (gNm 6) (bodyFound F_hits) still (U.map tupS) D [some (famW fam), x1, x2, x3, x4, some (.ref S1.length), x6, none] (S1 ++ .lst [] :: G0) := by
  refine forW_inv (fun i env S' => ∃ G x6, S' = S1 ++ .lst ((scan (hitS fam) subS (U.take i)).map tupS) :: (G0 ++ G) ∧ env = [some (famW fam), x1, x2, x3, x4, some (.ref S1.length), x6, none]) ⟨[], x6, by simp [scan], rfl⟩ ?_ ?_
  · rintro i x env S' hx ⟨G, x6, rfl, rfl⟩ N hN
    obtain ⟨c, hci, rfl, hcm, hi⟩ := map_get hx
    refine ⟨hst _ _, ?_⟩
    have hcl := hc c hcm
    have e1 : scan (hitS fam) subS (U.take (i + 1)) = step (hitS fam) subS (scan (hitS fam) subS (U.take i)) c := by rw [take_snoc hci, scan_snoc]
    have hsub : ∀ l, (scan (hitS fam) subS l).length ≤ l.length ∧ ∀ d ∈ scan (hitS fam) subS l, d ∈ l := by
      intro l
      have go : ∀ (n : Nat) (l : Fam), l.length = n → (scan (hitS fam) subS l).length ≤ l.length ∧ ∀ d ∈ scan (hitS fam) subS l, d ∈ l := by
        intro n
        induction n with
        | zero =>
          intro l h
          rw [List.eq_nil_of_length_eq_zero h]
          exact ⟨Nat.le_refl _, fun d h => nomatch h⟩
        | succ n ih =>
          intro l h
          have hne : l ≠ [] := fun e => by rw [e] at h; cases h
          obtain ⟨M, y, rfl⟩ : ∃ M y, l = M ++ [y] := ⟨_, _, (List.dropLast_concat_getLast hne).symm⟩
          obtain ⟨i1, i2⟩ := ih M (by simpa using h)
          rw [scan_snoc]
          unfold step
          split
          · refine ⟨by simp; omega, fun d hd => ?_⟩
            rcases List.mem_append.mp hd with h | h
            · exact List.mem_append_left _ (i2 d h)
            · exact List.mem_append_right _ h
          · exact ⟨by simp; omega, fun d hd => List.mem_append_left _ (i2 d hd)⟩
      exact go _ l rfl
    obtain ⟨fl, fm⟩ := hsub (U.take i)
    rw [List.length_take] at fl
    unfold bodyFound
    walk_at "dl"
    refine compG (S := S1 ++ .lst ((scan (hitS fam) subS (U.take i)).map tupS) :: (G0 ++ G)) (f := tupS) (h := fun d => W.bl (subS d c)) (xs := scan (hitS fam) subS (U.take i)) (fun G' => by simp) (by omega) (fun d hd G2 K k => ?_) fun G2 => ?_
    · have hdl := hc d (List.mem_of_mem_take (fm d hd))
      unfold tupS
      walk_at "dl"
      refine compM (h := fun x => W.bl (decide (x ∈ c))) trivial (by omega) (fun a ha K2 k2 => ?_) ?_
      · walk_at "dl"
        refine ⟨rfl, flW_strs c, ?_⟩
        rw [inW_dec]
        exact k2
      · refine any_ok (b := fun x => decide (x ∈ c)) get_app0 ?_
        have e : (d.map fun x => decide (x ∈ c)).all id = subS d c := by
          rw [List.all_map, Bool.eq_iff_iff, List.all_eq_true]
          show (∀ x ∈ d, decide (x ∈ c) = true) ↔ decide _ = true
          rw [decide_eq_true_eq]
          simp
        rw [e]
        have z := k (G2 ++ [O.lst (d.map fun x => W.bl (decide (x ∈ c)))])
        simp only [List.append_assoc, List.cons_append] at z ⊢
        exact z
    · refine any_ok (b := fun d => subS d c) get_app0 ?_
      walk_at "dl"
      rw [List.any_map]
      have hanyE : ((scan (hitS fam) subS (U.take i)).any (id ∘ fun d => subS d c)) = (scan (hitS fam) subS (U.take i)).any fun d => subS d c := rfl
      rw [hanyE]
      have skip : step (hitS fam) subS (scan (hitS fam) subS (U.take i)) c = scan (hitS fam) subS (U.take i) → ∀ G', N [some (famW fam), x1, x2, x3, x4, some (.ref S1.length), some (tupS c), none] (S1 ++ .lst ((scan (hitS fam) subS (U.take i)).map tupS) :: (G0 ++ G')) := fun e G' => hN _ _ ⟨G', _, by rw [e1, e], rfl⟩
      have asc : ∀ X : Sto, G0 ++ (G ++ X) = G0 ++ (G ++ X) := fun _ => rfl
      split
      · rename_i hno
        refine hits_ok ok hcl ?_
        walk_at "dl"
        split
        · rename_i hh
          have es : step (hitS fam) subS (scan (hitS fam) subS (U.take i)) c = scan (hitS fam) subS (U.take i) ++ [c] := by
            unfold step
            rw [if_pos (by rw [hno, hh]; rfl)]
          refine ⟨lt_sz (by omega), hN _ _ ⟨G ++ (G2 ++ [O.lst ((scan (hitS fam) subS (U.take i)).map fun d => W.bl (subS d c))]), _, ?_, rfl⟩⟩
          rw [e1, es, List.map_append]
          rfl
        · rename_i hh
          refine skip ?_ _
          unfold step
          rw [if_neg]
          rw [Bool.and_eq_true]
          exact fun h => hh h.1
      · rename_i hyes
        refine skip ?_ _
        unfold step
        rw [if_neg]
        rw [Bool.and_eq_true, Bool.not_eq_true']
        exact fun h => hyes h.2
  · rintro env S' ⟨G, x6, rfl, rfl⟩
    rw [List.length_map, List.take_length]
    exact ⟨hst _ _, done G x4 x6⟩
theorem sort_least {fam F : Fam} {S : Sto} {Q : WK} {i : Nat} (hL : IsLeast fam (F.mergeSort tupLe)) (h : S[i]? = some (.lst (F.map tupS))) (q : ∀ L, IsLeast fam L → Q (.ref S.length) (S ++ [.lst (L.map tupS)])) : vSortE [.ref i] S Q := by
  by_cases hn : [] ∈ F
  · have memF : ∀ c, c ∈ F ↔ Min fam c := fun c => (List.mem_mergeSort).symm.trans (hL.mem c)
    have h0 := (memF []).mp hn
    have all : ∀ c ∈ F, c = [] := fun c hc => by
      cases c with
      | nil => rfl
      | cons x c => exact absurd (((memF _).mp hc).2.2 [] (fun x hx => nomatch hx) h0.2.1 x (by simp)) List.not_mem_nil
    have nd : F.Nodup := (List.mergeSort_perm F tupLe).nodup_iff.mp hL.nd
    have e : F = [[]] := by
      match F, nd, all, hn with
      | [c], _, all, _ => rw [all c (by simp)]
      | c :: d :: F, nd, all, _ =>
        have e1 := all c (by simp)
        have e2 := all d (by simp)
        rw [e1, e2] at nd
        exact absurd (List.mem_cons_self ..) (List.nodup_cons.mp nd).1
    subst e
    have em : ([[]] : Fam).mergeSort tupLe = [[]] := List.mergeSort_singleton ..
    rw [em] at hL
    exact .inr ⟨h, q [[]] hL⟩
  · refine .inl (sorted_tups_ok (xss := F) h (fun xs hx e => hn (e ▸ hx)) (q _ hL))
theorem vc_least : ∀ ws S Q, Closed S → F_least ws S Q → d_law_least_sets F_hits (endsW S.length Q) (startW N_law_least_sets.length ws) S := by
  rintro ws S Q cl ⟨fam, rfl, ok, q⟩
  show d_law_least_sets F_hits _ [some (famW fam), none, none, none, none, none, none, none] _
  unfold d_law_least_sets
  walk_at "dl"
  refine names_loop ok (fun _ => trivial) (I := fun env => ∃ x2 x4, env = [some (famW fam), some (.ref S.length), x2, none, x4, none, none, none]) ⟨none, none, rfl⟩ ?_ ?_
  · rintro m names G env N hm hn ⟨x2, x4, rfl⟩ k
    have ms := ok.short hm
    unfold tupS
    walk_at "dl"
    refine compN (p := fun x => decide (x ∉ names)) (h := W.str) trivial (by omega) (fun a ha QT k => ?_) (fun a ha _ K k => ?_) ?_
    · walk_at "dl"
      refine ⟨rfl, flW_strs names, ?_⟩
      rw [inW_dec]
      simpa using k
    · walk_at "dl"
      exact k
    · walk_at "dl"
      have fl := List.length_filter_le (fun x => decide (x ∉ names)) m
      refine ⟨le_sz (by omega), ?_⟩
      rw [← List.map_append]
      exact k _ _ ⟨_, _, rfl⟩
  · rintro names G env hn ⟨x2, x4, rfl⟩
    have hnl := hn.len ok
    have hN : Asc (names.mergeSort strLe) := asc_sort hn.nd
    have hNl : (names.mergeSort strLe).length ≤ 8 := by rw [List.length_mergeSort]; exact hnl
    have hf : ∀ m ∈ fam, ∀ x ∈ m, x ∈ names.mergeSort strLe := fun m hm x hx => List.mem_mergeSort.mpr ((hn.mem x).mpr ⟨m, hm, hx⟩)
    walk_at "dl"
    refine .inl (sorted_strs_ok (xs := names) get_app0 ?_)
    generalize names.mergeSort strLe = M at hN hNl hf
    have hk1 : (S ++ stro names :: G ++ [stro M])[(S ++ stro names :: G).length]? = some (stro M) := get_app0
    obtain ⟨G1, hG1⟩ : ∃ G1, S ++ stro names :: G ++ [stro M] = S ++ G1 := ⟨stro names :: (G ++ [stro M]), by simp⟩
    rw [hG1] at hk1 ⊢
    generalize (S ++ stro names :: G).length = k1 at hk1
    rw [e_seqL (get_old hk1)]
    refine sets_loop hNl (fun G => get_old hk1) fun j G2 x4' hj => ?_
    have e : S ++ G1 ++ G2 = S ++ (G1 ++ G2) := List.append_assoc ..
    rw [e] at hj ⊢
    generalize G1 ++ G2 = G3 at hj
    walk_at "dl"
    have hj2 : (S ++ (G3 ++ [O.lst []]))[j]? = some (.lst ((pw M).map tupS)) := by rw [← List.append_assoc]; exact get_old hj
    have hpl := lsts_len hNl
    refine ⟨_, hj2, fun x hx => ?_, ?_⟩
    · obtain ⟨c, _, rfl⟩ := List.mem_map.mp hx
      exact ⟨_, rfl⟩
    have eb : (((pw M).map tupS).mergeSort fun x y => decide ((wlen x : Int) ≤ (wlen y : Int))) = (byLen M).map tupS :=
      (List.map_mergeSort (r := fun a b : List Str => decide ((a.length : Int) ≤ (b.length : Int))) (s := fun x y => decide ((wlen x : Int) ≤ (wlen y : Int))) (f := tupS) (l := pw M) fun a _ b _ => by rw [wlen_tupS, wlen_tupS]).symm
    rw [eb]
    have hk2 : (S ++ (G3 ++ [O.lst []]) ++ [.lst ((byLen M).map tupS)])[(S ++ (G3 ++ [O.lst []])).length]? = some (.lst ((byLen M).map tupS)) := get_app0
    show vSeqI (W.ref (S ++ (G3 ++ [O.lst []])).length) (S ++ (G3 ++ [O.lst []]) ++ [O.lst (List.map tupS (byLen M))]) _
    rw [e_seqL hk2]
    have eS : S ++ (G3 ++ [O.lst []]) ++ [.lst ((byLen M).map tupS)] = (S ++ G3) ++ .lst [] :: [.lst ((byLen M).map tupS)] := by simp
    rw [eS]
    have el : List.length S + List.length G3 = (S ++ G3).length := (List.length_append ..).symm
    have el2 : (S ++ (G3 ++ [O.lst []])).length = (S ++ G3).length + 1 := by simp; omega
    rw [el, el2]
    have hbl : (byLen M).length ≤ 256 := by
      unfold byLen
      rw [List.length_mergeSort]
      exact hpl
    refine found_loop ok hbl (fun c hc => Nat.le_trans ((mem_byLen M c).mp hc).length_le hNl) (fun cur G => get_app (R := S ++ G3) (k := 1)) fun G x4 x6 => ?_
    have L := leastS (fam := fam) hN hf
    walk_at "dl"
    refine sort_least L (by rw [← List.append_assoc, ← List.length_append]; exact get_app0) fun L' hL' => ?_
    have z := Ends0.last (n := S.length) (Q := Q) (S := S) (T := (G3 ++ O.lst ((scan (hitS fam) subS (byLen M)).map tupS) :: O.lst ((byLen M).map tupS) :: G) ++ [.lst (L'.map tupS)]) (k := (G3 ++ O.lst ((scan (hitS fam) subS (byLen M)).map tupS) :: O.lst ((byLen M).map tupS) :: G).length) (ws := L'.map tupS) (Nat.le_refl _) cl get_app0 (pureL_tups L') (q L' hL')
    rw [← List.append_assoc, ← List.length_append] at z
    exact z

end K66

namespace K66
open PySem PySem.Spec PyProof.Rows L2 TL DL KS
local macro_rules | `(tactic| walk_at "dl") => `(tactic| try simp (config := { decide := false }) only [e_seq, e_asg, e_nm, e_op, e_un, e_cb, e_c, e_var, e_ifs, e_tru, e_B, e_drop, e_bm, e_bm0, e_ret, e_retN, e_next, e_break, e_cont, e_nil, e_cons, e_tup, e_lst, e_sl, e_onone, e_osome, e_gsub, e_call, e_callk, e_and, e_or, e_not, e_andv, e_orv, e_notv, e_notU, e_isI, e_isS, e_isT, e_isR, e_isN, e_if, e_par, e_for, e_comp, e_iseq, e_rng1, e_rng3, e_zip, e_dictC, e_sc2, e_iseqF, e_yes, e_gtp, e_gc, e_gn0,
  e_addI, e_addS, e_addT, e_addL, e_i20, e_i2, e_neg, e_cmpI, e_cmpS, e_eqI, e_eqS, e_eqB, e_ixT, e_ixLit, e_ixL, e_ixS, e_set, e_ixAT, e_ixALit, e_ixAL, e_ixAS, e_ixAD, e_setAL, e_setAD, e_dict0, e_inAL, e_inAT, e_inAD, e_inAS, e_listAT, e_listALit, e_listAL, e_listAD, e_max2, e_extend, e_isalpha, e_enum, keyW, sz0, sz1, sz2, sz3, sz4, sz5, sz6, O.dk.injEq, e_slT, e_slLit, e_slS, e_slL, e_lenAS, e_lenAT, e_lenALit, e_lenAL, e_lenAD, e_lenS, e_lenT, e_lenLit, e_lenL, e_i1, e_intI, e_intB, e_strI, e_strS, e_listT, e_listLit, e_listL, e_tupleT, e_tupleL, e_append, e_pop0, e_tyL, e_tyS, e_truL, e_truT, e_truB, e_truI, e_truS, e_truN, e_seqT, e_seqLit, e_seqL, e_in, e_inT, e_isi, kit_ll, kit_ss, tyW_L, tyW_S, tyW_T, tyW_I, tyW_B, cut_to1, cut_to2, cut_from1, wipeW_nil, wipeW_cons, Nat.reduceAdd, eq_self, List.map_cons, List.map_nil,
  atI_0, atI_1, atI_2, atI_3, atI_4, atI_5, atI_end, ixN_0, ixN_1, ixN_11, ixN_last, List.map_append, List.map_cons, List.map_nil, get_app, get_app0, set_app, set_app0, List.cons_append, List.nil_append, List.append_assoc, List.length_append, List.length_cons, List.length_nil, Nat.zero_add, List.length_map, List.length_set,
  List.getElem?_cons_zero, List.getElem?_cons_succ, List.set_cons_zero, List.set_cons_succ, Option.some.injEq, exists_eq_left', exists_eq_left, exists_and_left, W.int.injEq, W.bl.injEq, W.str.injEq, W.tup.injEq, W.ref.injEq, O.lst.injEq, List.cons.injEq, reduceCtorEq, false_and, exists_false, or_false, false_or, true_and, and_true, decide_eq_true_eq, Bool.false_xor, Bool.true_xor, Bool.not_eq_true', decide_eq_false_iff_not, List.isEmpty_cons, List.isEmpty_nil, Bool.not_true, Bool.not_false, if_true, if_false, not_true_eq_false, not_false_eq_true, ne_eq, Bool.false_eq_true, reduceIte])


/-! ### hitting_sets -/
def F_hitting : DSpec := fun ws S Q => ∃ fam, ws = [famW fam] ∧ OkFam fam ∧ ∀ L, IsLeast fam L → Q (famW L) S
/-- {name for member in family for name in member} -/
theorem setc_loop {fam : Fam} {S : Sto} {env : Slots} {N : List Key → Sto → Prop} {still : Sto → Prop} (hl : ∀ m ∈ fam, m.length ≤ 8) (hf : fam.length ≤ 50) (hst : still S)
    (hm : ∀ m ∈ fam, ∀ (K : List DL.W → (Sto → Prop) → Sto → Prop), K (m.map W.str) (fun _ => True) S → iSeq (dVar 6) ((wipeW env [6, 7]).set 6 (some (tupS m))) S K)
    (hx : ∀ (m : List Str) (x : Str), ∀ K : WK, K (.str x) S → dVar 7 ((wipeW ((wipeW env [6, 7]).set 6 (some (tupS m))) [7]).set 7 (some (.str x))) S K)
    (done : N (fam.flatten.map Sum.inr) S) : setW2 (gNm 6) dYes (iSeq (dVar 6)) (gNm 7) dYes (dVar 7) [6, 7] [7] still env N (fam.map tupS) [] S := by
  have inner : ∀ (m : List Str) (env2 : Slots) (N2 : List Key → Sto → Prop) (r acc : List Str), (∀ x, ∀ K : WK, K (.str x) S → dVar 7 ((wipeW env2 [7]).set 7 (some (.str x))) S K) → acc.length + r.length < 4000 → N2 ((acc ++ r).map Sum.inr) S →
      setW1 (gNm 7) dYes (dVar 7) [7] (fun _ => True) env2 N2 (r.map W.str) (acc.map Sum.inr) S := by
    intro m env2 N2 r
    induction r with
    | nil =>
      intro acc _ _ h
      rw [List.append_nil] at h
      exact ⟨trivial, h⟩
    | cons x r ih =>
      intro acc h1 h2 h3
      refine ⟨trivial, ?_⟩
      simp (config := { decide := false }) only [e_nm, e_yes, if_true]
      refine h1 x _ ⟨.inr x, rfl, by rw [List.length_map]; simp at h2; omega, ?_⟩
      have e : acc.map Sum.inr ++ [Sum.inr x] = (acc ++ [x]).map (Sum.inr : Str → Key) := by rw [List.map_append]; rfl
      rw [e]
      exact ih (acc ++ [x]) h1 (by simp at h2 ⊢; omega) (by rw [List.append_assoc]; exact h3)
  have outer : ∀ (r : Fam) (acc : List Str), (∀ m ∈ r, m ∈ fam) → acc.length + 8 * r.length < 4000 → N ((acc ++ r.flatten).map Sum.inr) S →
      setW2 (gNm 6) dYes (iSeq (dVar 6)) (gNm 7) dYes (dVar 7) [6, 7] [7] still env N (r.map tupS) (acc.map Sum.inr) S := by
    intro r
    induction r with
    | nil =>
      intro acc _ _ h
      rw [List.flatten_nil, List.append_nil] at h
      exact ⟨hst, h⟩
    | cons m r ih =>
      intro acc h1 h2 h3
      have hmm := h1 m (by simp)
      have hml := hl m hmm
      refine ⟨hst, ?_⟩
      simp (config := { decide := false }) only [e_nm, e_yes, if_true]
      refine hm m hmm _ ?_
      refine inner m _ _ m acc (fun x K k => hx m x K k) (by simp at h2; omega) ?_
      refine ih (acc ++ m) (fun m' h => h1 m' (List.mem_cons_of_mem _ h)) (by simp at h2 ⊢; omega) ?_
      rw [List.append_assoc]
      exact h3
  exact outer fam [] (fun m h => h) (by simp; omega) (by simpa using done)
theorem alikeK_strs (xs : List Str) : AlikeK (xs.map Sum.inr) := by
  intro a ha b hb
  obtain ⟨x, _, rfl⟩ := List.mem_map.mp ha
  obtain ⟨y, _, rfl⟩ := List.mem_map.mp hb
  rfl
theorem keys_strs : ∀ {us : List Key}, (∀ k ∈ us, ∃ x : Str, k = Sum.inr x) → ∃ xs : List Str, us = xs.map Sum.inr
  | [], _ => ⟨[], rfl⟩
  | u :: us, h => by
    obtain ⟨x, rfl⟩ := h u (by simp)
    obtain ⟨xs, rfl⟩ := keys_strs (us := us) fun k hk => h k (by simp [hk])
    exact ⟨x :: xs, rfl⟩
theorem once_strs {xs : List Str} {us : List Key} (h : Once (xs.map Sum.inr) us) : ∃ ys : List Str, us = ys.map Sum.inr ∧ ys.Nodup ∧ ∀ x, x ∈ ys ↔ x ∈ xs := by
  obtain ⟨ys, rfl⟩ := keys_strs (us := us) fun k hk => by
    obtain ⟨x, _, e⟩ := List.mem_map.mp ((h.mem k).mp hk)
    exact ⟨x, e.symm⟩
  refine ⟨ys, rfl, ?_, fun x => ?_⟩
  · have nd := h.nd
    rw [List.nodup_iff_pairwise_ne] at nd ⊢
    rw [List.pairwise_map] at nd
    exact nd.imp fun h e => h (congrArg _ e)
  · have z := h.mem (Sum.inr x)
    simpa using z
theorem keys_sort (ys : List Str) : (((ys.map Sum.inr : List Key).map wK).mergeSort leW) = (ys.mergeSort strLe).map W.str := by
  rw [List.map_map]
  exact sorted_strs ys
theorem sum_int {N s : List Str} (nN : N.Nodup) (ns : s.Nodup) (h : ∀ x ∈ s, x ∈ N) : (s.map fun x => (1 : Int) * 2 ^ ((N.idxOf x : Int)).toNat).sum = (bits N s : Int) := by
  rw [← sum_bits nN ns h]
  clear ns h
  induction s with
  | nil => rfl
  | cons x s ih =>
    rw [List.map_cons, List.sum_cons, ih, List.map_cons, List.sum_cons, Int.natCast_add, Int.natCast_pow, Int.toNat_natCast, Int.one_mul]
    rfl
theorem band_nat (a b : Nat) : Builtin.bitAnd (a : Int) (b : Int) = ((a &&& b : Nat) : Int) := by
  unfold Builtin.bitAnd
  rw [decide_eq_true (Int.natCast_nonneg a), decide_eq_true (Int.natCast_nonneg b)]
  rfl
def bodyBits : DS :=
(dSeq (dIfS (dNotT (dTru (dCB vAllI (aCons (dComp (iSeq (dVar 3)) (gNm 9) dYes (dOp vBand (dVar 5) (dVar 9)) [9]) aNil))))
dCont
dNext)
(dIfS (dNotT (dTru (dCB (vAny fun bs => bs.any id) (aCons (dComp (iSeq (dVar 4)) (gNm 10) dYes (dOp vEq (dOp vBand (dVar 10) (dVar 5)) (dVar 10)) [10]) aNil))))
(dDrop (dBM "list" vAppend (dVar 4) (aCons (dVar 5) aNil)))
dNext))
theorem scan_len {α : Type} (hit : α → Bool) (sub : α → α → Bool) (l : List α) : (scan hit sub l).length ≤ l.length := by
  have go : ∀ (n : Nat) (l : List α), l.length = n → (scan hit sub l).length ≤ l.length := by
    intro n
    induction n with
    | zero =>
      intro l h
      rw [List.eq_nil_of_length_eq_zero h]
      exact Nat.le_refl _
    | succ n ih =>
      intro l h
      have hne : l ≠ [] := fun e => by rw [e] at h; cases h
      obtain ⟨M, y, rfl⟩ : ∃ M y, l = M ++ [y] := ⟨_, _, (List.dropLast_concat_getLast hne).symm⟩
      have i1 := ih M (by simpa using h)
      rw [scan_snoc]
      unfold step
      split
      · simp; omega
      · simp; omega
  exact go _ l rfl
theorem range_take {i n : Nat} (h : i ≤ n) : (List.range n).take i = List.range i := by
  rw [List.take_range, Nat.min_eq_left h]
theorem bits_loop {fam : Fam} (ok : OkFam fam) {M : List Str} (nM : M.Nodup) (hf : ∀ m ∈ fam, ∀ x ∈ m, x ∈ M) (hNl : M.length ≤ 8) {T : Sto} {jW : Nat} (hW : T[jW]? = some (.lst (fam.map fun m => W.int (bits M m)))) {D : DEnds} {x0 x1 x2 : Option DL.W}
    (done : ∀ (G : Sto) (x5 : Option DL.W), D.nx [x0, x1, x2, some (.ref jW), some (.ref T.length), x5, none, none, none, none, none] (T ++ .lst ((scan (hitB M fam) subB (List.range (2 ^ M.length))).map fun (k : Nat) => W.int (k : Int)) :: G)) :
    forW (gNm 5) bodyBits (fun _ => True) (rngW 0 (2 ^ M.length)) D [x0, x1, x2, some (.ref jW), some (.ref T.length), none, none, none, none, none, none] (T ++ [.lst []]) := by
  have hp : 2 ^ M.length ≤ 256 := Nat.le_trans (Nat.pow_le_pow_right (by decide) hNl) (by decide)
  refine forW_inv (fun i env S' => ∃ G x5, S' = T ++ .lst ((scan (hitB M fam) subB (List.range i)).map fun (k : Nat) => W.int (k : Int)) :: G ∧ env = [x0, x1, x2, some (.ref jW), some (.ref T.length), x5, none, none, none, none, none]) ⟨[], none, by simp [scan], rfl⟩ ?_ ?_
  · rintro i x env S' hx ⟨G, x5, rfl, rfl⟩ N hN
    obtain ⟨hi, rfl⟩ := rng_get hx
    refine ⟨trivial, ?_⟩
    have sl := scan_len (hitB M fam) subB (List.range i)
    rw [List.length_range] at sl
    have e1 : scan (hitB M fam) subB (List.range (i + 1)) = step (hitB M fam) subB (scan (hitB M fam) subB (List.range i)) i := by rw [List.range_succ, scan_snoc]
    have skip : step (hitB M fam) subB (scan (hitB M fam) subB (List.range i)) i = scan (hitB M fam) subB (List.range i) → ∀ G', N [x0, x1, x2, some (.ref jW), some (.ref T.length), some (.int (i : Int)), none, none, none, none, none] (T ++ .lst ((scan (hitB M fam) subB (List.range i)).map fun (k : Nat) => W.int (k : Int)) :: G') := fun e G' => hN _ _ ⟨G', _, by rw [e1, e], rfl⟩
    unfold bodyBits
    walk_at "dl"
    rw [e_seqL (get_old hW)]
    refine compM (f := fun m => W.int (bits M m)) (h := fun m => W.int ((i &&& bits M m : Nat) : Int)) (xs := fam) (get_old hW) (by have := ok.len; omega) (fun m hm K k => ?_) ?_
    · walk_at "dl"
      rw [band_nat]
      exact k
    · refine ⟨fam.map fun m => ((i &&& bits M m : Nat) : Int), by rw [List.map_map]; exact get_app0, ?_⟩
      have eh : (fam.map fun m => ((i &&& bits M m : Nat) : Int)).all (· != 0) = hitB M fam i := by
        unfold hitB
        rw [List.all_map]
        refine congrArg (fam.all) (funext fun m => ?_)
        rw [Bool.eq_iff_iff, decide_eq_true_eq]
        simp
      rw [eh]
      walk_at "dl"
      split
      · rename_i hh
        refine skip ?_ _
        unfold step
        rw [if_neg]
        rw [Bool.and_eq_true, hh]
        exact fun h => Bool.false_ne_true h.1
      · rename_i hh
        rw [Bool.not_eq_false] at hh
        refine compM (f := fun (d : Nat) => W.int (d : Int)) (h := fun d => W.bl (subB d i)) (xs := scan (hitB M fam) subB (List.range i)) get_app0 (by omega) (fun d hd K k => ?_) ?_
        · walk_at "dl"
          rw [band_nat]
          have ed : decide (((d &&& i : Nat) : Int) = (d : Int)) = subB d i := by
            unfold subB
            rw [Bool.eq_iff_iff, decide_eq_true_eq, decide_eq_true_eq, Int.natCast_inj]
          rw [ed]
          exact k
        · refine any_ok (b := fun d => subB d i) get_app0 ?_
          walk_at "dl"
          rw [List.any_map]
          have hanyE : ((scan (hitB M fam) subB (List.range i)).any (id ∘ fun d => subB d i)) = (scan (hitB M fam) subB (List.range i)).any fun d => subB d i := rfl
          rw [hanyE]
          split
          · rename_i hno
            have es : step (hitB M fam) subB (scan (hitB M fam) subB (List.range i)) i = scan (hitB M fam) subB (List.range i) ++ [i] := by
              unfold step
              rw [if_pos (by rw [hno, hh]; rfl)]
            refine ⟨lt_sz (by omega), hN _ _ ⟨G ++ [O.lst (fam.map fun m => W.int ((i &&& bits M m : Nat) : Int)), O.lst ((scan (hitB M fam) subB (List.range i)).map fun d => W.bl (subB d i))], _, ?_, rfl⟩⟩
            rw [e1, es, List.map_append]
            rfl
          · rename_i hyes
            refine skip ?_ _
            unfold step
            rw [if_neg]
            rw [Bool.and_eq_true, Bool.not_eq_true']
            exact fun h => hyes h.2
  · rintro env S' ⟨G, x5, rfl, rfl⟩
    rw [rng_len]
    exact ⟨trivial, done G x5⟩
theorem bit_test (k j : Nat) : (Builtin.bitAnd ((k : Int) / 2 ^ ((j : Int)).toNat) 1 != 0) = k.testBit j := by
  have e : (k : Int) / 2 ^ ((j : Int)).toNat = ((k / 2 ^ j : Nat) : Int) := by
    rw [Int.toNat_natCast, Int.natCast_ediv, Int.natCast_pow]
    rfl
  rw [e, show (1 : Int) = ((1 : Nat) : Int) from rfl, band_nat, Nat.and_one_is_mod, Nat.testBit_eq_decide_div_mod_eq]
  rw [Bool.eq_iff_iff, decide_eq_true_eq, bne_iff_ne]
  omega
theorem vc_hitting : ∀ ws S Q, Closed S → F_hitting ws S Q → d_hitting_sets (endsW S.length Q) (startW N_hitting_sets.length ws) S := by
  rintro ws S Q cl ⟨fam, rfl, ok, q⟩
  show d_hitting_sets _ [some (famW fam), none, none, none, none, none, none, none, none, none, none] _
  unfold d_hitting_sets
  walk_at "dl"
  refine setc_loop (fun m hm => ok.short hm) ok.len trivial (fun m hm K k => ?_) (fun m x K k => ?_) ?_
  · unfold tupS
    walk_at "dl"
    exact k
  · walk_at "dl"
    exact k
  refine ⟨alikeK_strs _, fun us hus => ?_⟩
  obtain ⟨ys, rfl, nd, mem⟩ := once_strs hus
  rw [keys_sort]
  have hN : Asc (ys.mergeSort strLe) := asc_sort nd
  have memN : ∀ x, x ∈ ys.mergeSort strLe ↔ ∃ m ∈ fam, x ∈ m := fun x => by
    rw [List.mem_mergeSort, mem, List.mem_flatten]
  have hNl : (ys.mergeSort strLe).length ≤ 8 := NamesOf.len ⟨hN.nodup, memN⟩ ok
  have hf : ∀ m ∈ fam, ∀ x ∈ m, x ∈ ys.mergeSort strLe := fun m hm x hx => (memN x).mpr ⟨m, hm, hx⟩
  generalize ys.mergeSort strLe = M at hN memN hNl hf
  walk_at "dl"
  have nM := hN.nodup
  have hsz : ∀ x ∈ M, M.idxOf x < 8 := fun x hx => Nat.lt_of_lt_of_le (List.idxOf_lt_length_of_mem hx) hNl
  refine dictW_inv (fun i acc S' => S' = S ++ [stro M] ∧ acc = (M.take i).map fun x => (Sum.inr x, DL.W.int (M.idxOf x))) ⟨rfl, rfl⟩ ?_ ?_
  · rintro i x acc S' hx ⟨rfl, rfl⟩ N hN2
    obtain ⟨w, hw, rfl⟩ := enumW_get hx
    obtain ⟨a, ha, rfl, hm, hi⟩ := map_get hw
    refine ⟨get_app0, ?_⟩
    walk_at "dl"
    refine ⟨.inr a, rfl, lt_sz (by simp; omega), hN2 _ _ ⟨rfl, ?_⟩⟩
    rw [putW_new, take_snoc ha, List.map_append]
    · have e : M.idxOf a = i := by
        obtain ⟨hl, e⟩ := List.getElem?_eq_some_iff.mp ha
        rw [← e]
        exact idx_at nM hl
      rw [← e]
      rfl
    · refine valW_none (f := fun x => DL.W.int (M.idxOf x)) (g := fun x => x) fun b hb e => ?_
      obtain ⟨k, hk, ek⟩ := List.mem_iff_getElem.mp hb
      rw [List.length_take] at hk
      rw [List.getElem_take] at ek
      obtain ⟨hl, ea⟩ := List.getElem?_eq_some_iff.mp ha
      have := (List.getElem_inj nM).mp (show M[k] = M[i] by rw [ek, ea]; exact e)
      omega
  rintro acc S' ⟨rfl, rfl⟩
  rw [enumW_len, List.length_map, List.take_length]
  refine ⟨get_app0, ?_⟩
  walk_at "dl"
  have hkv : ∀ x ∈ M, valW (M.map fun x => (Sum.inr x, DL.W.int (M.idxOf x))) (.inr x) = some (.int (M.idxOf x)) := fun x hx =>
    valW_map (f := fun x => DL.W.int (M.idxOf x)) (g := fun x => x) (fun _ _ _ _ e => e) hx rfl
  generalize (M.map fun x => ((Sum.inr x, DL.W.int (M.idxOf x)) : Key × DL.W)) = kv at hkv
  have eT : S ++ [stro M, .dk kv] = S ++ stro M :: .dk kv :: [] := rfl
  refine compG (S := S ++ [stro M, .dk kv]) (f := tupS) (h := fun m => W.int (bits M m)) (xs := fam) (fun _ => trivial) (by have := ok.len; omega) (fun m hm G K k => ?_) fun G => ?_
  · have hml := ok.short hm
    have hmf := hf m hm
    unfold tupS
    walk_at "dl"
    refine compM (h := fun x => W.int (1 * 2 ^ ((M.idxOf x : Int)).toNat)) trivial (by omega) (fun x hx K2 k2 => ?_) ?_
    · have hxM := hmf x hx
      have := hsz x hxM
      walk_at "dl"
      rw [e_ixAD (i := S.length + 1) (kvs := kv) (by rw [get_app]; rfl) rfl (hkv x hxM)]
      walk_at "dl"
      exact ⟨⟨by omega, by omega, by decide⟩, k2⟩
    · refine ⟨m.map fun x => 1 * 2 ^ ((M.idxOf x : Int)).toNat, ?_, ?_⟩
      · rw [List.map_map]
        exact get_app0
      · rw [sum_int nM (ok.asc m hm).nodup hmf]
        have z := k (G ++ [O.lst (m.map fun x => W.int (1 * 2 ^ ((M.idxOf x : Int)).toNat))])
        simp only [List.append_assoc, List.cons_append, List.nil_append] at z ⊢
        exact z
  walk_at "dl"
  have e2 : (1 : Int) * 2 ^ ((M.length : Int)).toNat = ((2 ^ M.length : Nat) : Int) := by rw [Int.toNat_natCast, Int.one_mul, Int.natCast_pow]; rfl
  have hp : 2 ^ M.length ≤ 256 := Nat.le_trans (Nat.pow_le_pow_right (by decide) hNl) (by decide)
  rw [e2, Int.toNat_natCast]
  have c0 : (0 : Int) ≤ ((2 ^ M.length : Nat) : Int) := Int.natCast_nonneg _
  have c1 : ((2 ^ M.length : Nat) : Int) ≤ 256 := Int.ofNat_le.mpr hp
  refine ⟨⟨by omega, by omega, by decide⟩, Int.le_trans (by decide) c0, Int.lt_of_le_of_lt c1 (by decide), ?_⟩
  have eS : S ++ stro M :: O.dk kv :: (G ++ [O.lst (fam.map fun m => W.int (bits M m)), O.lst []]) = (S ++ stro M :: O.dk kv :: (G ++ [O.lst (fam.map fun m => W.int (bits M m))])) ++ [.lst []] := by simp
  rw [eS]
  have el : S.length + (G.length + 1 + 1 + 1) = (S ++ stro M :: O.dk kv :: (G ++ [O.lst (fam.map fun m => W.int (bits M m))])).length := by simp
  rw [el]
  have hW : (S ++ stro M :: O.dk kv :: (G ++ [O.lst (fam.map fun m => W.int (bits M m))]))[S.length + (G.length + 1 + 1)]? = some (.lst (fam.map fun m => W.int (bits M m))) := by
    rw [get_app]
    show (G ++ _)[G.length]? = _
    exact get_app0
  have hMt : (S ++ stro M :: O.dk kv :: (G ++ [O.lst (fam.map fun m => W.int (bits M m))]))[S.length]? = some (stro M) := get_app0
  have hP : (S ++ stro M :: O.dk kv :: (G ++ [O.lst (fam.map fun m => W.int (bits M m))]))[S.length + 1]? = some (.dk kv) := get_app (k := 1)
  obtain ⟨G3, hG3⟩ : ∃ G3, S ++ stro M :: O.dk kv :: (G ++ [O.lst (fam.map fun m => W.int (bits M m))]) = S ++ G3 := ⟨_, rfl⟩
  rw [hG3] at hW hMt hP ⊢
  refine bits_loop ok nM hf hNl hW fun G4 x5 => ?_
  have L := leastB (fam := fam) hN hf
  walk_at "dl"
  have hX : (S ++ (G3 ++ O.lst ((scan (hitB M fam) subB (List.range (2 ^ M.length))).map fun (k : Nat) => W.int (k : Int)) :: G4))[S.length + G3.length]? = some (.lst ((scan (hitB M fam) subB (List.range (2 ^ M.length))).map fun (k : Nat) => W.int (k : Int))) := by
    rw [← List.append_assoc, ← List.length_append]
    exact get_app0
  have hMt2 : (S ++ (G3 ++ O.lst ((scan (hitB M fam) subB (List.range (2 ^ M.length))).map fun (k : Nat) => W.int (k : Int)) :: G4))[S.length]? = some (stro M) := by
    rw [← List.append_assoc]
    exact get_old hMt
  have hP2 : (S ++ (G3 ++ O.lst ((scan (hitB M fam) subB (List.range (2 ^ M.length))).map fun (k : Nat) => W.int (k : Int)) :: G4))[S.length + 1]? = some (.dk kv) := by
    rw [← List.append_assoc]
    exact get_old hP
  generalize G3 ++ O.lst ((scan (hitB M fam) subB (List.range (2 ^ M.length))).map fun (k : Nat) => W.int (k : Int)) :: G4 = G5 at hX hMt2 hP2
  have sl := scan_len (hitB M fam) subB (List.range (2 ^ M.length))
  rw [List.length_range] at sl
  refine compG (S := S ++ G5) (f := fun (k : Nat) => W.int (k : Int)) (h := fun k => tupS (pick M k)) (xs := scan (hitB M fam) subB (List.range (2 ^ M.length))) (fun G => get_old hX) (by omega) (fun c hc G6 K k => ?_) fun G6 => ?_
  · walk_at "dl"
    have hMt3 := get_old (G := G6) hMt2
    have hP3 := get_old (G := G6) hP2
    rw [List.append_assoc] at hMt3 hP3
    rw [e_seqL hMt3]
    refine compN (f := W.str) (p := fun x => c.testBit (M.idxOf x)) (h := W.str) hMt3 (by omega) (fun x hx QT k2 => ?_) (fun x hx _ K2 k2 => ?_) ?_
    · walk_at "dl"
      rw [e_ixAD hP3 rfl (hkv x hx)]
      walk_at "dl"
      refine ⟨Int.natCast_nonneg _, ?_⟩
      rw [bit_test]
      exact k2
    · walk_at "dl"
      exact k2
    · rw [e_tupleL get_app0]
      have z := k (G6 ++ [O.lst ((pick M c).map W.str)])
      simp only [List.append_assoc] at z ⊢
      exact z
  · have em : (scan (hitB M fam) subB (List.range (2 ^ M.length))).map (fun k => tupS (pick M k)) = ((scan (hitB M fam) subB (List.range (2 ^ M.length))).map (pick M)).map tupS := by
      rw [List.map_map]
      rfl
    rw [em]
    refine sort_least L get_app0 fun L' hL' => ?_
    rw [e_tupleL get_app0]
    have e5 : S ++ G5 ++ G6 ++ [O.lst (((scan (hitB M fam) subB (List.range (2 ^ M.length))).map (pick M)).map tupS)] ++ [.lst (L'.map tupS)] = S ++ (G5 ++ (G6 ++ [O.lst (((scan (hitB M fam) subB (List.range (2 ^ M.length))).map (pick M)).map tupS), .lst (L'.map tupS)])) := by simp
    rw [e5]
    exact end_drop cl (pureL_tups L') (q L' hL')

end K66

namespace K66
open PySem PySem.Spec PyProof.Rows L2 TL DL KS
local macro_rules | `(tactic| walk_at "dl") => `(tactic| try simp (config := { decide := false }) only [e_seq, e_asg, e_nm, e_op, e_un, e_cb, e_c, e_var, e_ifs, e_tru, e_B, e_drop, e_bm, e_bm0, e_ret, e_retN, e_next, e_break, e_cont, e_nil, e_cons, e_tup, e_lst, e_sl, e_onone, e_osome, e_gsub, e_call, e_callk, e_and, e_or, e_not, e_andv, e_orv, e_notv, e_notU, e_isI, e_isS, e_isT, e_isR, e_isN, e_if, e_par, e_for, e_comp, e_iseq, e_rng1, e_rng3, e_zip, e_dictC, e_sc2, e_iseqF, e_yes, e_gtp, e_gc, e_gn0,
  e_addI, e_addS, e_addT, e_addL, e_i20, e_i2, e_neg, e_cmpI, e_cmpS, e_eqI, e_eqS, e_eqB, e_ixT, e_ixLit, e_ixL, e_ixS, e_set, e_ixAT, e_ixALit, e_ixAL, e_ixAS, e_ixAD, e_setAL, e_setAD, e_dict0, e_inAL, e_inAT, e_inAD, e_inAS, e_listAT, e_listALit, e_listAL, e_listAD, e_max2, e_extend, e_isalpha, e_enum, keyW, sz0, sz1, sz2, sz3, sz4, sz5, sz6, O.dk.injEq, e_slT, e_slLit, e_slS, e_slL, e_lenAS, e_lenAT, e_lenALit, e_lenAL, e_lenAD, e_lenS, e_lenT, e_lenLit, e_lenL, e_i1, e_intI, e_intB, e_strI, e_strS, e_listT, e_listLit, e_listL, e_tupleT, e_tupleL, e_append, e_pop0, e_tyL, e_tyS, e_truL, e_truT, e_truB, e_truI, e_truS, e_truN, e_seqT, e_seqLit, e_seqL, e_in, e_inT, e_isi, kit_ll, kit_ss, kit_tt, kit_ii, kit_ib, tyW_L, tyW_S, tyW_T, tyW_I, tyW_B, cut_to1, cut_to2, cut_from1, wipeW_nil, wipeW_cons, Nat.reduceAdd, eq_self, List.map_cons, List.map_nil,
  atI_0, atI_1, atI_2, atI_3, atI_4, atI_5, atI_end, ixN_0, ixN_1, ixN_11, ixN_last, List.map_append, List.map_cons, List.map_nil, get_app, get_app0, set_app, set_app0, List.cons_append, List.nil_append, List.append_assoc, List.length_append, List.length_cons, List.length_nil, Nat.zero_add, List.length_map, List.length_set,
  List.getElem?_cons_zero, List.getElem?_cons_succ, List.set_cons_zero, List.set_cons_succ, Option.some.injEq, exists_eq_left', exists_eq_left, exists_and_left, W.int.injEq, W.bl.injEq, W.str.injEq, W.tup.injEq, W.ref.injEq, O.lst.injEq, List.cons.injEq, reduceCtorEq, false_and, exists_false, or_false, false_or, true_and, and_true, decide_eq_true_eq, Bool.false_xor, Bool.true_xor, Bool.not_eq_true', decide_eq_false_iff_not, List.isEmpty_cons, List.isEmpty_nil, Bool.not_true, Bool.not_false, if_true, if_false, not_true_eq_false, not_false_eq_true, ne_eq, Bool.false_eq_true, reduceIte])


theorem kit_ii : kitB "int" "int" = some true := by decide +kernel
theorem kit_ib : kitB "int" "bool" = some false := by decide +kernel
section
variable {α : Type} {f h : α → DL.W} {xs : List α} {g : DG} {te : DE} {vs : List Nat} {still : Sto → Prop} {env : Slots} {Q : WK} {S : Sto}
theorem compT (st : still S) (hl : xs.length ≤ 99998) (he : ∀ a ∈ xs, ∀ K : DL.W → Sto → Prop, K (h a) S → g (f a) (wipeW env vs) S fun e2 S2 => te e2 S2 K) (q : Q (.ref S.length) (S ++ [.lst (xs.map h)])) : compW g dYes te vs still env Q (xs.map f) [] S := by
  refine compW_inv (fun k acc S' => S' = S ∧ acc = (xs.take k).map h) ⟨rfl, by simp⟩ ?_ ?_
  · rintro k x acc S' hx ⟨rfl, rfl⟩ N hN
    obtain ⟨a, ha, rfl, hm, hk⟩ := map_get hx
    refine ⟨st, ?_⟩
    simp (config := { decide := false }) only [e_yes, if_true]
    refine he a hm _ ⟨?_, hN _ _ ⟨rfl, ?_⟩⟩
    · refine lt_sz ?_
      rw [List.length_map, List.length_take]
      omega
    · rw [take_snoc ha, List.map_append]
      rfl
  · rintro acc S' ⟨rfl, rfl⟩
    rw [List.length_map, List.take_length]
    exact ⟨st, q⟩
end
/-! ### prices -/
abbrev Prices := List (Str × Int)
abbrev priceW (p : Str × Int) : DL.W := .tup [.str p.1, .int p.2]
abbrev priceK (ps : Prices) : List (Key × DL.W) := ps.map fun p => (Sum.inr p.1, DL.W.int p.2)
def priceOf (ps : Prices) (x : Str) : Int := ((ps.find? fun p => decide (p.1 = x)).map (·.2)).getD 0
def cost (ps : Prices) (c : List Str) : Int := (c.map (priceOf ps)).sum
structure OkPrices (ps : Prices) (fam : Fam) : Prop where
  nd : (ps.map (·.1)).Nodup
  len : ps.length ≤ 100
  all : ∀ m ∈ fam, ∀ x ∈ m, x ∈ ps.map (·.1)
theorem price_val : ∀ {ps : Prices} {x : Str}, x ∈ ps.map (·.1) → valW (priceK ps) (.inr x) = some (.int (priceOf ps x))
  | p :: ps, x, h => by
    unfold valW priceOf
    by_cases e : p.1 = x
    · simp [e]
    · have h2 : x ∈ ps.map (·.1) := by
        rcases List.mem_cons.mp h with q | q
        · exact absurd q.symm e
        · exact q
      have ih := price_val h2
      unfold valW priceOf at ih
      simp [e] at ih ⊢
      exact ih
theorem price_new {ps : Prices} {x : Str} (h : x ∉ ps.map (·.1)) : valW (priceK ps) (.inr x) = none :=
  valW_none (f := fun p : Str × Int => DL.W.int p.2) (g := fun p => p.1) fun p hp e => h (e ▸ List.mem_map_of_mem hp)
theorem price_put {ps : Prices} {p : Str × Int} (h : p.1 ∉ ps.map (·.1)) : putW (priceK ps) (.inr p.1) (.int p.2) = priceK (ps ++ [p]) := by
  rw [putW_new (price_new h)]
  unfold priceK
  rw [List.map_append]
  rfl
theorem take_new {ps : Prices} (nd : (ps.map (·.1)).Nodup) {i : Nat} {p : Str × Int} (h : ps[i]? = some p) : p.1 ∉ (ps.take i).map (·.1) := by
  intro hm
  have e : ps.map (·.1) = (ps.take i).map (·.1) ++ (ps.drop i).map (·.1) := by rw [← List.map_append, List.take_append_drop]
  rw [e] at nd
  obtain ⟨hl, hp⟩ := List.getElem?_eq_some_iff.mp h
  have hd : p.1 ∈ (ps.drop i).map (·.1) := by
    rw [List.drop_eq_getElem_cons hl, hp]
    simp
  exact (List.nodup_append.mp nd).2.2 _ hm _ hd rfl
/-- what is least is of the family's names -/
theorem min_names {fam : Fam} {c : List Str} (h : Min fam c) : ∀ x ∈ c, ∃ m ∈ fam, x ∈ m := by
  intro x hx
  have z := h.2.2 (c.filter fun y => decide (y ∈ fam.flatten)) (fun y hy => (List.mem_filter.mp hy).1) (fun m hm => by
    obtain ⟨y, hy, hyc⟩ := h.2.1 m hm
    exact ⟨y, hy, List.mem_filter.mpr ⟨hyc, decide_eq_true (List.mem_flatten.mpr ⟨m, hm, hy⟩)⟩⟩) x hx
  exact List.mem_flatten.mp (of_decide_eq_true (List.mem_filter.mp z).2)
theorem min_len {fam : Fam} (ok : OkFam fam) {c : List Str} (h : Min fam c) : c.length ≤ 8 := by
  obtain ⟨U, h1, h2, h3⟩ := ok.U
  refine Nat.le_trans (List.Nodup.length_le_of_subset h.1.nodup fun x hx => ?_) h2
  obtain ⟨m, hm, hxm⟩ := min_names h x hx
  exact h3 m hm x hxm
def bestW : Option (Int × List Str) → DL.W
  | none => .non
  | some (k, c) => .tup [.int k, tupS c]
theorem best_pure (b : Option (Int × List Str)) : (bestW b).pure = true := by
  cases b with
  | none => rfl
  | some b =>
    show (true && (W.pureL (b.2.map W.str) && true)) = true
    rw [pureL_strs]
    rfl
/-! ### cheapest_hitting -/
def PriceAt (S : Sto) (w : DL.W) (ps : Prices) : Prop := w = .tup (ps.map priceW) ∨ ∃ i, w = .ref i ∧ S[i]? = some (.ft (ps.map priceW))
def F_cheap : DSpec := fun ws S Q => ∃ fam w ps, ws = [famW fam, w] ∧ OkFam fam ∧ OkPrices ps fam ∧ PriceAt S w ps ∧ ∀ L, IsLeast fam L → Q (bestW (cheap (cost ps) L)) S
def bodyCheap (i3 : Nat) : DS :=
(dSeq (dAsg (dCB vSum (aCons (dComp (iSeq (dVar 4)) (gNm 6) dYes (dOp vIxA (dVar 2) (dVar 6)) [6]) aNil)) (gNm 5))
(dIfS (dOrT (dB (dOp (vIs false) (dVar 3) (dC .non))) (dB (dOp vLt (dVar 5) (dOp vIxA (dVar 3) (dC (.int 0))))))
(dAsg (dTup (aCons (dVar 5) (aCons (dVar 4) aNil))) (gNm 3))
dNext))
theorem cheap_loop {fam L : Fam} {ps : Prices} (ok : OkFam fam) (op : OkPrices ps fam) (hL : IsLeast fam L) {T : Sto} {j : Nat} (hj : T[j]? = some (.dk (priceK ps))) {D : DEnds} {x0 x1 : Option DL.W} {still : Sto → Prop} (hst : ∀ G, still (T ++ G))
    (done : ∀ G x4 x5, D.nx [x0, x1, some (.ref j), some (bestW (cheap (cost ps) L)), x4, x5, none] (T ++ G)) :
    forW (gNm 4) (bodyCheap 3) still (L.map tupS) D [x0, x1, some (.ref j), some .non, none, none, none] T := by
  refine forW_inv (fun i env S' => ∃ G x4 x5, S' = T ++ G ∧ env = [x0, x1, some (.ref j), some (bestW (cheap (cost ps) (L.take i))), x4, x5, none]) ⟨[], none, none, by simp, rfl⟩ ?_ ?_
  · rintro i x env S' hx ⟨G, x4, x5, rfl, rfl⟩ N hN
    obtain ⟨c, hci, rfl, hcm, hi⟩ := map_get hx
    refine ⟨hst _, ?_⟩
    have hmin := (hL.mem c).mp hcm
    have hcl := min_len ok hmin
    have e1 : cheap (cost ps) (L.take (i + 1)) = cheapStep (cost ps) (cheap (cost ps) (L.take i)) c := by rw [take_snoc hci, cheap_snoc]
    unfold bodyCheap tupS
    walk_at "dl"
    refine compM (h := fun x => W.int (priceOf ps x)) trivial (by omega) (fun x hx K k => ?_) ?_
    · obtain ⟨m, hm, hxm⟩ := min_names hmin x hx
      walk_at "dl"
      rw [e_ixAD (get_old hj) rfl (price_val (op.all m hm x hxm))]
      exact k
    · refine ⟨c.map (priceOf ps), by rw [List.map_map]; exact get_app0, ?_⟩
      have ec : (c.map (priceOf ps)).sum = cost ps c := rfl
      rw [ec]
      cases hb : cheap (cost ps) (L.take i) with
      | none =>
        rw [hb] at e1
        unfold bestW
        walk_at "dl"
        refine hN _ _ ⟨_, some (tupS c), some (.int (cost ps c)), rfl, ?_⟩
        rw [e1]
        rfl
      | some b =>
        obtain ⟨k, d⟩ := b
        rw [hb] at e1
        unfold bestW
        walk_at "dl"
        split
        · rename_i hlt
          refine hN _ _ ⟨_, some (tupS c), some (.int (cost ps c)), rfl, ?_⟩
          rw [e1]
          show _ = [x0, x1, some (.ref j), some (bestW (if cost ps c < k then some (cost ps c, c) else some (k, d))), _, _, none]
          rw [if_pos hlt]
          rfl
        · rename_i hlt
          refine hN _ _ ⟨_, some (tupS c), some (.int (cost ps c)), rfl, ?_⟩
          rw [e1]
          show _ = [x0, x1, some (.ref j), some (bestW (if cost ps c < k then some (cost ps c, c) else some (k, d))), _, _, none]
          rw [if_neg hlt]
          rfl
  · rintro env S' ⟨G, x4, x5, rfl, rfl⟩
    rw [List.length_map, List.take_length]
    exact ⟨hst _, done G x4 x5⟩
theorem vc_cheap : ∀ ws S Q, Closed S → F_cheap ws S Q → d_cheapest_hitting F_hitting (endsW S.length Q) (startW N_cheapest_hitting.length ws) S := by
  rintro ws S Q cl ⟨fam, w, ps, rfl, ok, op, hw, q⟩
  show d_cheapest_hitting F_hitting _ [some (famW fam), some w, none, none, none, none, none] _
  unfold d_cheapest_hitting
  walk_at "dl"
  have seq : ∀ Q' : List DL.W → (Sto → Prop) → Sto → Prop, Q' (ps.map priceW) (fun _ => True) S → vSeqF w S Q' := fun Q' k => by
    rcases hw with rfl | ⟨i, rfl, hi⟩
    · exact .inl k
    · exact .inr ⟨i, _, rfl, hi, k⟩
  refine seq _ ?_
  refine dictW_inv (fun i acc S' => S' = S ∧ acc = priceK (ps.take i)) ⟨rfl, rfl⟩ ?_ ?_
  · rintro i x acc S' hx ⟨rfl, rfl⟩ N hN2
    obtain ⟨p, hp, rfl, _, hi⟩ := map_get hx
    have opl := op.len
    refine ⟨trivial, ?_⟩
    walk_at "dl"
    refine ⟨.inr p.1, rfl, lt_sz (by simp; omega), hN2 _ _ ⟨rfl, ?_⟩⟩
    rw [price_put (take_new op.nd hp), take_snoc hp]
  rintro acc S' ⟨rfl, rfl⟩
  rw [List.length_map, List.take_length]
  refine ⟨trivial, ⟨fam, rfl, ok, fun L hL => ?_⟩⟩
  have hj : (S' ++ [O.dk (priceK ps)])[S'.length]? = some (.dk (priceK ps)) := get_app0
  show forW (gNm 4) (bodyCheap 3) (fun _ => True) (L.map tupS) _ _ _
  refine cheap_loop ok op hL hj (fun _ => trivial) fun G x4 x5 => ?_
  walk_at "dl"
  exact end_drop cl (best_pure _) (q L hL)
/-! ### _law_cheapest -/
def F_lcheap : DSpec := fun ws S Q => ∃ fam L a i ps, ws = [.ref a, .ref i] ∧ OkFam fam ∧ OkPrices ps fam ∧ S[a]? = some (.lst (L.map tupS)) ∧ S[i]? = some (.ft (ps.map priceW)) ∧ IsLeast fam L ∧ Q (bestW (cheap (cost ps) L)) S
theorem merge_prices : ∀ (ps qs : Prices), (qs.map (·.1) ++ ps.map (·.1)).Nodup → mergeW (priceK qs) (priceK ps) = priceK (qs ++ ps)
  | [], qs, _ => by
    rw [List.append_nil]
    rfl
  | p :: ps, qs, h => by
    have hp : p.1 ∉ qs.map (·.1) := fun hm => (List.nodup_append.mp h).2.2 _ hm p.1 (by simp) rfl
    show mergeW (putW (priceK qs) (.inr p.1) (.int p.2)) (priceK ps) = _
    rw [price_put hp, merge_prices ps (qs ++ [p]) (by simpa using h)]
    simp
theorem vc_lcheap : ∀ ws S Q, Closed S → F_lcheap ws S Q → d_law_cheapest (endsW S.length Q) (startW N_law_cheapest.length ws) S := by
  rintro ws S Q cl ⟨fam, L, a, i, ps, rfl, ok, op, ha, hi, hL, q⟩
  show d_law_cheapest _ [some (.ref a), some (.ref i), none, none, none, none, none] _
  unfold d_law_cheapest
  walk_at "dl"
  have ep : (ps.map priceW) = (priceK ps).map pairW := by
    unfold priceK
    rw [List.map_map]
    rfl
  have em : mergeW [] (priceK ps) = priceK ps := by
    have z := merge_prices ps [] (by simpa using op.nd)
    simpa using z
  refine ⟨priceK ps, by rw [hi, ep], ?_⟩
  rw [em]
  walk_at "dl"
  have ha2 : (S ++ [O.dk (priceK ps)])[a]? = some (.lst (L.map tupS)) := get_old ha
  rw [e_seqL ha2]
  have hj : (S ++ [O.dk (priceK ps)])[S.length]? = some (.dk (priceK ps)) := get_app0
  show forW (gNm 4) (bodyCheap 3) _ (L.map tupS) _ _ _
  refine cheap_loop ok op hL hj (fun G => get_old ha2) fun G x4 x5 => ?_
  walk_at "dl"
  exact end_drop cl (best_pure _) q
/-! ### _law_told_sets -/
def SeqD (S : Sto) (w : DL.W) (us : List DL.W) : Prop := w = .tup us ∨ ∃ j, w = .ref j ∧ S[j]? = some (.lst us)
def F_told : DSpec := fun ws S Q => ∃ A w, ws = [famW A, w] ∧ A.length ≤ 1000 ∧ (∀ c ∈ A, c.length ≤ 8) ∧ SeqD S w (A.map tupS) ∧ Q (.bl true) S
theorem told_ok {A : Fam} {w : DL.W} {S : Sto} {Q : WK} (h1 : A.length ≤ 1000) (h2 : ∀ c ∈ A, c.length ≤ 8) (hs : SeqD S w (A.map tupS)) (q : Q (.bl true) S) : F_told [famW A, w] S Q := ⟨A, w, rfl, h1, h2, hs, q⟩
theorem zip_same {α : Type} (f : α → DL.W) (xs : List α) : zipW (xs.map f) (xs.map f) = xs.map fun a => .tup [f a, f a] := by
  unfold zipW
  rw [List.zipWith_map]
  induction xs with
  | nil => rfl
  | cons x xs ih => rw [List.zipWith_cons_cons, ih]; rfl
theorem vc_told : ∀ ws S Q, Closed S → F_told ws S Q → d_law_told_sets (endsW S.length Q) (startW N_law_told_sets.length ws) S := by
  rintro ws S Q cl ⟨A, w, rfl, h1, h2, hw, q⟩
  show d_law_told_sets _ [some (famW A), some w, none, none, none, none] _
  unfold d_law_told_sets famW
  walk_at "dl"
  have len : ∀ K : WK, K (.int (A.length : Int)) S → vLenA [w] S K := fun K k => by
    rcases hw with rfl | ⟨j, rfl, hj⟩
    · rw [e_lenAT, List.length_map]
      exact k
    · rw [e_lenAL hj, List.length_map]
      exact k
  have seq : ∀ K : List DL.W → (Sto → Prop) → Sto → Prop, (∀ still : Sto → Prop, (∀ G, still (S ++ G)) → K (A.map tupS) still S) → vSeqI w S K := fun K k => by
    rcases hw with rfl | ⟨j, rfl, hj⟩
    · exact k _ fun _ => trivial
    · rw [e_seqL hj]
      exact k _ fun G => get_old hj
  refine len _ ?_
  walk_at "dl"
  refine ⟨fun h => (nomatch h), seq _ fun still hst => ?_⟩
  rw [zip_same]
  refine forW_inv (fun i env S' => ∃ G x2 x3, S' = S ++ G ∧ env = [some (famW A), some w, x2, x3, none, none]) ⟨[], none, none, by simp, rfl⟩ ?_ ?_
  · rintro i x env S' hx ⟨G, x2, x3, rfl, rfl⟩ N hN
    obtain ⟨c, hc, rfl, hcm, _⟩ := map_get hx
    have hcl := h2 c hcm
    refine ⟨hst G, ?_⟩
    unfold tupS
    walk_at "dl"
    refine ⟨fun h => (nomatch h), ?_⟩
    rw [zip_same]
    refine compT (h := fun _ => W.bl true) trivial (by omega) (fun x hx K k => ?_) ?_
    · walk_at "dl"
      simpa using k
    · refine any_ok (b := fun _ => true) get_app0 ?_
      walk_at "dl"
      have e : (c.map fun _ => true).all id = true := by rw [List.all_map]; exact List.all_eq_true.mpr fun _ _ => rfl
      rw [e]
      walk_at "dl"
      exact hN _ _ ⟨_, _, _, rfl, rfl⟩
  · rintro env S' ⟨G, x2, x3, rfl, rfl⟩
    refine ⟨hst G, ?_⟩
    walk_at "dl"
    exact end_drop cl rfl q
/-! ### _law_told_cheapest -/
def F_tcheap : DSpec := fun ws S Q => ∃ b : Option (Int × List Str), ws = [bestW b, bestW b] ∧ (∀ k c, b = some (k, c) → c.length ≤ 8) ∧ Q (.bl true) S
theorem tcheap_ok {b : Option (Int × List Str)} {S : Sto} {Q : WK} (h : ∀ k c, b = some (k, c) → c.length ≤ 8) (q : Q (.bl true) S) : F_tcheap [bestW b, bestW b] S Q := ⟨b, rfl, h, q⟩
theorem vc_tcheap : ∀ ws S Q, Closed S → F_tcheap ws S Q → d_law_told_cheapest F_told (endsW S.length Q) (startW N_law_told_cheapest.length ws) S := by
  rintro ws S Q cl ⟨b, rfl, hb, q⟩
  show d_law_told_cheapest F_told _ [some (bestW b), some (bestW b)] _
  unfold d_law_told_cheapest
  cases b with
  | none =>
    unfold bestW
    walk_at "dl"
    have z := end_drop (G := []) cl rfl q
    rw [List.append_nil] at z
    exact z
  | some b =>
    obtain ⟨k, c⟩ := b
    unfold bestW
    walk_at "dl"
    have z := end_drop (G := []) cl rfl q
    rw [List.append_nil] at z
    refine told_ok (A := [c]) (by simp) (fun d hd => ?_) (.inl rfl) z
    rw [List.mem_singleton.mp hd]
    exact hb k c rfl

end K66

namespace K66
open PySem PySem.Spec PyProof.Rows L2 TL DL KS
local macro_rules | `(tactic| walk_at "dl") => `(tactic| try simp (config := { decide := false }) only [e_seq, e_asg, e_nm, e_op, e_un, e_cb, e_c, e_var, e_ifs, e_tru, e_B, e_drop, e_bm, e_bm0, e_ret, e_retN, e_next, e_break, e_cont, e_nil, e_cons, e_tup, e_lst, e_sl, e_onone, e_osome, e_gsub, e_call, e_callk, e_and, e_or, e_not, e_andv, e_orv, e_notv, e_notU, e_isI, e_isS, e_isT, e_isR, e_isN, e_if, e_par, e_for, e_comp, e_iseq, e_rng1, e_rng3, e_zip, e_dictC, e_sc2, e_iseqF, e_yes, e_gtp, e_gc, e_gn0,
  e_addI, e_addS, e_addT, e_addL, e_i20, e_i2, e_neg, e_cmpI, e_cmpS, e_eqI, e_eqS, e_eqB, e_ixT, e_ixLit, e_ixL, e_ixS, e_set, e_ixAT, e_ixALit, e_ixAL, e_ixAS, e_ixAD, e_setAL, e_setAD, e_dict0, e_inAL, e_inAT, e_inAD, e_inAS, e_listAT, e_listALit, e_listAL, e_listAD, e_max2, e_extend, e_isalpha, e_enum, keyW, sz0, sz1, sz2, sz3, sz4, sz5, sz6, O.dk.injEq, e_slT, e_slLit, e_slS, e_slL, e_lenAS, e_lenAT, e_lenALit, e_lenAL, e_lenAD, e_lenS, e_lenT, e_lenLit, e_lenL, e_i1, e_intI, e_intB, e_strI, e_strS, e_listT, e_listLit, e_listL, e_tupleT, e_tupleL, e_append, e_pop0, e_tyL, e_tyS, e_truL, e_truT, e_truB, e_truI, e_truS, e_truN, e_seqT, e_seqLit, e_seqL, e_in, e_inT, e_isi, kit_ll, kit_ss, kit_tt, kit_ii, kit_ib, tyW_L, tyW_S, tyW_T, tyW_I, tyW_B, cut_to1, cut_to2, cut_from1, wipeW_nil, wipeW_cons, Nat.reduceAdd, eq_self, List.map_cons, List.map_nil,
  atI_0, atI_1, atI_2, atI_3, atI_4, atI_5, atI_end, ixN_0, ixN_1, ixN_11, ixN_last, List.map_append, List.map_cons, List.map_nil, get_app, get_app0, set_app, set_app0, List.cons_append, List.nil_append, List.append_assoc, List.length_append, List.length_cons, List.length_nil, Nat.zero_add, List.length_map, List.length_set,
  List.getElem?_cons_zero, List.getElem?_cons_succ, List.set_cons_zero, List.set_cons_succ, Option.some.injEq, exists_eq_left', exists_eq_left, exists_and_left, W.int.injEq, W.bl.injEq, W.str.injEq, W.tup.injEq, W.ref.injEq, O.lst.injEq, List.cons.injEq, reduceCtorEq, false_and, exists_false, or_false, false_or, true_and, and_true, decide_eq_true_eq, Bool.false_xor, Bool.true_xor, Bool.not_eq_true', decide_eq_false_iff_not, List.isEmpty_cons, List.isEmpty_nil, Bool.not_true, Bool.not_false, if_true, if_false, not_true_eq_false, not_false_eq_true, ne_eq, Bool.false_eq_true, reduceIte])


theorem sortE_strs {S : Sto} {Q : WK} {i : Nat} {xs : List Str} (h : S[i]? = some (stro xs)) (q : Q (.ref S.length) (S ++ [stro (xs.mergeSort strLe)])) : vSortE [.ref i] S Q := .inl (sorted_strs_ok h q)
theorem SeqP.grow {R X : Sto} {w : DL.W} {us : List DL.W} (h : SeqP R w us) : SeqP (R ++ X) w us := by
  rcases h with h | ⟨j, h, hj⟩
  · exact .inl h
  · exact .inr ⟨j, h, get_old hj⟩
theorem perm_maps {α β : Type} {f : α → β} {us vs : List β} (h : vs.Perm us) : ∀ F : List α, us = F.map f → ∃ F' : List α, F'.Perm F ∧ vs = F'.map f := by
  induction h with
  | nil =>
    intro F e
    cases F with
    | nil => exact ⟨[], List.Perm.refl _, rfl⟩
    | cons a F => cases e
  | cons x p ih =>
    intro F e
    cases F with
    | nil => cases e
    | cons a F =>
      obtain ⟨e1, e2⟩ := List.cons.inj e
      obtain ⟨F', p', rfl⟩ := ih F e2
      exact ⟨a :: F', p'.cons a, by rw [e1]; rfl⟩
  | swap x y l =>
    intro F e
    match F, e with
    | a :: b :: F, e =>
      obtain ⟨e1, e2⟩ := List.cons.inj e
      obtain ⟨e3, e4⟩ := List.cons.inj e2
      exact ⟨b :: a :: F, List.Perm.swap a b F, by rw [e1, e3, e4]; rfl⟩
    | [a], e => cases e
    | [], e => cases e
  | trans p1 p2 ih1 ih2 =>
    intro F e
    obtain ⟨F', q1, e1⟩ := ih2 F e
    obtain ⟨F'', q2, e2⟩ := ih1 F' e1
    exact ⟨F'', q2.trans q1, e2⟩
/-- a member that may be told: ascending, of these names -/
def Mem (names m : List Str) : Prop := Asc m ∧ ∀ x ∈ m, x ∈ names
theorem mem_sort {names xs : List Str} (nd : xs.Nodup) (h : ∀ x ∈ xs, x ∈ names) : Mem names (xs.mergeSort strLe) := ⟨asc_sort nd, fun x hx => h x (List.mem_mergeSort.mp hx)⟩
structure OkNames (R : Sto) (w : DL.W) (names : List Str) : Prop where
  at_ : SeqP R w (names.map W.str)
  nd : names.Nodup
  lo : 1 ≤ names.length
  hi : names.length ≤ 8
theorem OkNames.grow {R X : Sto} {w : DL.W} {names : List Str} (h : OkNames R w names) : OkNames (R ++ X) w names := ⟨h.at_.grow, h.nd, h.lo, h.hi⟩
theorem OkNames.len {R : Sto} {w : DL.W} {names : List Str} (h : OkNames R w names) {pl : List Int} {Q : WK} (q : Q (.int (names.length : Int)) (PB pl R)) : vLenA [w] (PB pl R) Q := by
  rcases h.at_ with rfl | ⟨j, rfl, hj⟩
  · rw [e_lenAT, List.length_map]
    exact q
  · rw [e_lenAL (i := j + 1) (ws := names.map W.str) hj, List.length_map]
    exact q
theorem mixed_names {pl : List Int} {R : Sto} {w : DL.W} {names : List Str} {Q : WK} (g : Good pl) (h : OkNames R w names) (k : ∀ (pl' : List Int) (ys : List Str), Good pl' → ys.Perm names → Q (.ref (R.length + 1)) (PB pl' (R ++ [stro ys]))) : F_mixed [.ref 0, w] (PB pl R) Q :=
  mixed_ok g h.at_ (pureL_strs _) (by rw [List.length_map]; have := h.hi; omega) fun pl' vs g' p => by
    obtain ⟨ys, p', rfl⟩ := perm_maps p names rfl
    exact k pl' ys g' p'
theorem get_end {α : Type} {R : List α} {x : α} : (R ++ [x])[R.length]? = some x := get_app0
/-! ### _law_free -/
def F_free : DSpec := fun ws S Q => ∃ pl R w names many, ws = [.ref 0, w, .int many] ∧ S = PB pl R ∧ Good pl ∧ OkNames R w names ∧ 0 ≤ many ∧ many ≤ 40 ∧
  ∀ (pl' : List Int) (F : Fam), Good pl' → F.length = many.toNat → (∀ m ∈ F, Mem names m) → Q (.ref (R.length + 1)) (PB pl' (R ++ [.lst (F.map tupS)]))
theorem free_ok {pl : List Int} {R : Sto} {w : DL.W} {names : List Str} {many : Int} {Q : WK} (g : Good pl) (h : OkNames R w names) (h0 : 0 ≤ many) (h1 : many ≤ 40) (k : ∀ (pl' : List Int) (F : Fam), Good pl' → F.length = many.toNat → (∀ m ∈ F, Mem names m) → Q (.ref (R.length + 1)) (PB pl' (R ++ [.lst (F.map tupS)]))) : F_free [.ref 0, w, .int many] (PB pl R) Q :=
  ⟨pl, R, w, names, many, rfl, rfl, g, h, h0, h1, k⟩
theorem vc_free : ∀ ws S Q, Closed S → F_free ws S Q → d_law_free F_pick F_mixed (endsW S.length Q) (startW N_law_free.length ws) S := by
  rintro ws S Q cl ⟨pl, R, w, names, many, rfl, rfl, g, hn, h0, h1, q⟩
  show d_law_free F_pick F_mixed _ [some (.ref 0), some w, some (.int many), none, none, none] _
  unfold d_law_free
  have nlo := hn.lo
  have nhi := hn.hi
  walk_at "dl"
  refine ⟨by omega, by omega, ?_⟩
  refine forW_inv (fun i env S' => ∃ pl F G x4 x5, S' = PB pl (R ++ .lst ((F : Fam).map tupS) :: G) ∧ Good pl ∧ env = [some (.ref 0), some w, some (.int many), some (.ref (R.length + 1)), x4, x5] ∧ F.length = i ∧ ∀ m ∈ F, Mem names m) ⟨pl, [], [], none, none, rfl, g, rfl, rfl, fun m h => nomatch h⟩ ?_ ?_
  · rintro i x env S' hx ⟨pl2, F, G, x4, x5, rfl, g2, rfl, hlen, hF⟩ N hN
    obtain ⟨hi, rfl⟩ := rng_get hx
    refine ⟨trivial, ?_⟩
    have hn2 : OkNames (R ++ .lst (F.map tupS) :: G) w names := hn.grow
    walk_at "dl"
    refine hn2.len ?_
    refine hn2.len ?_
    refine pick_ok g2 (by omega) fun pl3 p g3 p0 p1 => ?_
    walk_at "dl"
    refine pick_ok g3 (by decide) fun pl4 r g4 r0 r1 => ?_
    obtain ⟨size, hs, _, hs3⟩ := at_map (f := W.int) (xs := [1, 2, 2, 3, (names.length : Int), 1 + p]) r0 r1
    have hs0 : 0 ≤ size := by
      simp at hs
      omega
    obtain ⟨sz, rfl⟩ : ∃ sz : Nat, size = (sz : Int) := ⟨size.toNat, by omega⟩
    have hat : (PB pl4 (R ++ .lst (F.map tupS) :: (G ++ [O.lst ([1, 2, 2, 3, (names.length : Int), 1 + p].map W.int)])))[R.length + (G.length + 1) + 1]? = some (.lst ([1, 2, 2, 3, (names.length : Int), 1 + p].map W.int)) := by
      show (R ++ _)[R.length + (G.length + 1)]? = _
      rw [get_app]
      show (G ++ _)[G.length]? = _
      exact get_app0
    simp only [List.map_cons, List.map_nil] at hat hs3
    rw [e_ixAL hat hs3]
    walk_at "dl"
    generalize O.lst [W.int 1, W.int 2, W.int 2, W.int 3, W.int (names.length : Int), W.int (1 + p)] = o1
    refine mixed_names g4 hn.grow fun pl5 ys g5 py => ?_
    walk_at "dl"
    rw [cut_to]
    have etk : (ys.map W.str).take sz = (ys.take sz).map W.str := (List.map_take ..).symm
    rw [etk]
    refine sortE_strs (xs := ys.take sz) (by simp only [List.getElem?_cons_succ, List.getElem?_cons_zero, get_app, get_app0]) ?_
    rw [e_tupleL get_app0]
    have es : W.tup (((ys.take sz).mergeSort strLe).map W.str) = tupS ((ys.take sz).mergeSort strLe) := rfl
    rw [es]
    walk_at "dl"
    refine ⟨lt_sz (by omega), hN _ _ ⟨pl5, F ++ [(ys.take sz).mergeSort strLe], G ++ [o1, stro ys, O.lst ((ys.take sz).map W.str), stro ((ys.take sz).mergeSort strLe)], _, _, ?_, g5, rfl, by simp [hlen], fun m hm => ?_⟩⟩
    · rw [List.map_append]
      rfl
    · rcases List.mem_append.mp hm with h | h
      · exact hF m h
      · rw [List.mem_singleton.mp h]
        have nd : ys.Nodup := py.nodup_iff.mpr hn.nd
        exact mem_sort (List.Sublist.nodup (List.take_sublist _ _) nd) fun x hx => py.mem_iff.mp (List.mem_of_mem_take hx)
  · rintro env S' ⟨pl2, F, G, x4, x5, rfl, g2, rfl, hlen, hF⟩
    rw [rng_len] at hlen
    refine ⟨trivial, ?_⟩
    walk_at "dl"
    exact endPL (T := .lst (F.map tupS) :: G) (k := 0) cl rfl (by first | rfl | (simp; done) | omega) (pureL_tups F) (q pl2 F g2 hlen hF)

end K66

namespace K66
open PySem PySem.Spec PyProof.Rows L2 TL DL KS
local macro_rules | `(tactic| walk_at "dl") => `(tactic| try simp (config := { decide := false }) only [e_seq, e_asg, e_nm, e_op, e_un, e_cb, e_c, e_var, e_ifs, e_tru, e_B, e_drop, e_bm, e_bm0, e_ret, e_retN, e_next, e_break, e_cont, e_nil, e_cons, e_tup, e_lst, e_sl, e_onone, e_osome, e_gsub, e_call, e_callk, e_and, e_or, e_not, e_andv, e_orv, e_notv, e_notU, e_isI, e_isS, e_isT, e_isR, e_isN, e_if, e_par, e_for, e_comp, e_iseq, e_rng1, e_rng3, e_zip, e_dictC, e_sc2, e_iseqF, e_yes, e_gtp, e_gc, e_gn0,
  e_addI, e_addS, e_addT, e_addL, e_i20, e_i2, e_neg, e_cmpI, e_cmpS, e_eqI, e_eqS, e_eqB, e_ixT, e_ixLit, e_ixL, e_ixS, e_set, e_ixAT, e_ixALit, e_ixAL, e_ixAS, e_ixAD, e_setAL, e_setAD, e_dict0, e_inAL, e_inAT, e_inAD, e_inAS, e_listAT, e_listALit, e_listAL, e_listAD, e_max2, e_extend, e_isalpha, e_enum, keyW, sz0, sz1, sz2, sz3, sz4, sz5, sz6, O.dk.injEq, e_slT, e_slLit, e_slS, e_slL, e_lenAS, e_lenAT, e_lenALit, e_lenAL, e_lenAD, e_lenS, e_lenT, e_lenLit, e_lenL, e_i1, e_intI, e_intB, e_strI, e_strS, e_listT, e_listLit, e_listL, e_tupleT, e_tupleL, e_append, e_pop0, e_tyL, e_tyS, e_truL, e_truT, e_truB, e_truI, e_truS, e_truN, e_seqT, e_seqLit, e_seqL, e_in, e_inT, e_isi, kit_ll, kit_ss, kit_tt, kit_ii, kit_ib, tyW_L, tyW_S, tyW_T, tyW_I, tyW_B, cut_to1, cut_to2, cut_from1, wipeW_nil, wipeW_cons, Nat.reduceAdd, eq_self, List.map_cons, List.map_nil,
  atI_0, atI_1, atI_2, atI_3, atI_4, atI_5, atI_end, ixN_0, ixN_1, ixN_11, ixN_last, List.map_append, List.map_cons, List.map_nil, get_app, get_app0, set_app, set_app0, List.cons_append, List.nil_append, List.append_assoc, List.length_append, List.length_cons, List.length_nil, Nat.zero_add, List.length_map, List.length_set,
  List.getElem?_cons_zero, List.getElem?_cons_succ, List.set_cons_zero, List.set_cons_succ, Option.some.injEq, exists_eq_left', exists_eq_left, exists_and_left, W.int.injEq, W.bl.injEq, W.str.injEq, W.tup.injEq, W.ref.injEq, O.lst.injEq, List.cons.injEq, reduceCtorEq, false_and, exists_false, or_false, false_or, true_and, and_true, decide_eq_true_eq, Bool.false_xor, Bool.true_xor, Bool.not_eq_true', decide_eq_false_iff_not, List.isEmpty_cons, List.isEmpty_nil, Bool.not_true, Bool.not_false, if_true, if_false, not_true_eq_false, not_false_eq_true, ne_eq, Bool.false_eq_true, reduceIte])


def cutX {α : Type} (xs : List α) (lo hi : Option Int) : List α := (xs.drop (HT.sIx xs.length 0 lo)).take (HT.sIx xs.length xs.length hi - HT.sIx xs.length 0 lo)
theorem cutW_map {α : Type} {f : α → DL.W} {xs : List α} {lo hi : Option Int} : cutW (xs.map f) lo hi = (cutX xs lo hi).map f := by
  unfold cutW cutX
  rw [List.length_map, List.map_take, List.map_drop]
theorem cutX_sub {α : Type} {xs : List α} {lo hi : Option Int} : (cutX xs lo hi).Sublist xs := (List.take_sublist _ _).trans (List.drop_sublist _ _)
theorem mem_cut {names ys xs : List Str} (p : ys.Perm names) (nd : names.Nodup) (s : xs.Sublist ys) : Mem names (xs.mergeSort strLe) :=
  mem_sort (s.nodup (p.nodup_iff.mpr nd)) fun x hx => p.mem_iff.mp (s.subset hx)
theorem rgc2 : ∀ k : Nat, k ≤ 8 → RgC 0 (k : Int) 2 ((k + 1) / 2) := by
  unfold RgC
  decide +kernel
/-- the ascending list of what is met -/
noncomputable def ascOf (xs : List Str) : List Str := (exists_asc xs).choose
theorem ascOf_asc (xs : List Str) : Asc (ascOf xs) := (exists_asc xs).choose_spec.1
theorem ascOf_mem (xs : List Str) (x : Str) : x ∈ ascOf xs ↔ x ∈ xs := (exists_asc xs).choose_spec.2 x
theorem sortSetK_strs {S : Sto} {Q : WK} {i : Nat} {xs : List Str} (h : S[i]? = some (stro xs)) (hl : xs.length < 64) (q : Q (.ref S.length) (S ++ [stro (ascOf xs)])) : vSortSetK [.ref i] S Q := by
  refine ⟨xs.map Sum.inr, ?_, by rw [List.length_map]; exact hl, alikeK_strs _, fun us hus => ?_⟩
  · rw [h, List.map_map]
    rfl
  · obtain ⟨ys, rfl, nd, mem⟩ := once_strs hus
    rw [keys_sort]
    have e : ys.mergeSort strLe = ascOf xs := asc_ext (asc_sort nd) (ascOf_asc xs) fun x => by rw [List.mem_mergeSort, mem, ascOf_mem]
    rw [e]
    exact q
/-! ### _law_shaped -/
def F_shaped : DSpec := fun ws S Q => ∃ pl R w names way, ws = [.ref 0, w, .int way] ∧ S = PB pl R ∧ Good pl ∧ OkNames R w names ∧
  ∀ (pl' : List Int) (F : Fam), Good pl' → F.length ≤ 20 → (∀ m ∈ F, Mem names m) → Q (.ref (R.length + 1)) (PB pl' (R ++ [.lst (F.map tupS)]))
theorem shaped_ok {pl : List Int} {R : Sto} {w : DL.W} {names : List Str} {way : Int} {Q : WK} (g : Good pl) (h : OkNames R w names) (k : ∀ (pl' : List Int) (F : Fam), Good pl' → F.length ≤ 20 → (∀ m ∈ F, Mem names m) → Q (.ref (R.length + 1)) (PB pl' (R ++ [.lst (F.map tupS)]))) : F_shaped [.ref 0, w, .int way] (PB pl R) Q :=
  ⟨pl, R, w, names, way, rfl, rfl, g, h, k⟩
theorem OkNames.seq {R : Sto} {w : DL.W} {names : List Str} (h : OkNames R w names) {pl : List Int} {G : Sto} {K : List DL.W → (Sto → Prop) → Sto → Prop} (k : ∀ still : Sto → Prop, (∀ G, still (PB pl (R ++ G))) → K (names.map W.str) still (PB pl (R ++ G))) : vSeqI w (PB pl (R ++ G)) K := by
  rcases h.at_ with rfl | ⟨j, rfl, hj⟩
  · exact k _ fun _ => trivial
  · have hj2 : ∀ G, (PB pl (R ++ G))[j + 1]? = some (.lst (names.map W.str)) := fun G => by
      show (R ++ G)[j]? = _
      exact get_old hj
    rw [e_seqL (hj2 G)]
    exact k _ hj2
def yat (ys : List Str) (e : Int) : Str := ys.getD e.toNat (Str.ofString "")
theorem yat_at {ys : List Str} {e : Int} (h0 : 0 ≤ e) (h1 : e < ys.length) : atI (ys.map W.str) e = some (.str (yat ys e)) ∧ yat ys e ∈ ys := by
  obtain ⟨x, hx, hx2, hx3⟩ := at_map (f := W.str) (xs := ys) h0 h1
  have e1 : yat ys e = x := by
    unfold yat
    rw [List.getD_eq_getElem?_getD, hx2]
    rfl
  rw [e1]
  exact ⟨hx3, hx⟩
theorem vc_shaped : ∀ ws S Q, Closed S → F_shaped ws S Q → d_law_shaped F_mixed F_pick (endsW S.length Q) (startW N_law_shaped.length ws) S := by
  rintro ws S Q cl ⟨pl, R, w, names, way, rfl, rfl, g, hn, q⟩
  show d_law_shaped F_mixed F_pick _ [some (.ref 0), some w, some (.int way), none, none, none, none, none, none] _
  unfold d_law_shaped
  have nlo := hn.lo
  have nhi := hn.hi
  walk_at "dl"
  refine mixed_names g hn fun pl2 ys g2 py => ?_
  have yl : ys.length = names.length := py.length_eq
  walk_at "dl"
  refine ⟨_, _, _, ⟨rfl, rfl, rfl⟩, (ys.length + 1) / 2, rgc2 _ (by omega), ?_⟩
  have hj : (PB pl2 (R ++ [stro ys]))[R.length + 1]? = some (stro ys) := get_app0
  refine compG (S := PB pl2 (R ++ [stro ys])) (f := fun i : Nat => W.int (0 + (i : Int) * 2)) (h := fun i => tupS ((cutX ys (some (0 + (i : Int) * 2)) (some (0 + (i : Int) * 2 + 2))).mergeSort strLe)) (xs := List.range ((ys.length + 1) / 2)) (fun _ => trivial) (by rw [List.length_range]; omega) (fun i hi G K k => ?_) fun G => ?_
  · walk_at "dl"
    rw [cutW_map]
    refine sortE_strs (xs := cutX ys (some (0 + (i : Int) * 2)) (some (0 + (i : Int) * 2 + 2))) (by simp only [List.cons_append, List.append_assoc, List.nil_append, List.getElem?_cons_succ, List.getElem?_cons_zero, get_app, get_app0]) ?_
    rw [e_tupleL get_app0]
    have z := k (G ++ [stro (cutX ys (some (0 + (i : Int) * 2)) (some (0 + (i : Int) * 2 + 2))), stro ((cutX ys (some (0 + (i : Int) * 2)) (some (0 + (i : Int) * 2 + 2))).mergeSort strLe)])
    simp only [List.append_assoc, List.cons_append, List.nil_append] at z ⊢
    exact z
  have fin : ∀ (pl3 : List Int) (F : Fam) (T : Sto) (k j : Nat), Good pl3 → T[k]? = some (.lst (F.map tupS)) → j = R.length + k + 1 → F.length ≤ 20 → (∀ m ∈ F, Mem names m) → Ends0 (R.length + 1) Q (.ref j) (PB pl3 (R ++ T)) :=
    fun pl3 F T k j g3 hk hj hl hm => endPL cl hk hj (pureL_tups F) (q pl3 F g3 hl hm)
  have memc : ∀ lo hi, Mem names ((cutX ys lo hi).mergeSort strLe) := fun lo hi => mem_cut py hn.nd cutX_sub
  walk_at "dl"
  have em1 : (List.range ((ys.length + 1) / 2)).map (fun (i : Nat) => tupS ((cutX ys (some (0 + (i : Int) * 2)) (some (0 + (i : Int) * 2 + 2))).mergeSort strLe)) = ((List.range ((ys.length + 1) / 2)).map fun (i : Nat) => (cutX ys (some (0 + (i : Int) * 2)) (some (0 + (i : Int) * 2 + 2))).mergeSort strLe).map tupS := by
    rw [List.map_map]
    rfl
  rw [em1]
  split
  · refine fin pl2 ((List.range ((ys.length + 1) / 2)).map fun (i : Nat) => (cutX ys (some (0 + (i : Int) * 2)) (some (0 + (i : Int) * 2 + 2))).mergeSort strLe) (stro ys :: (G ++ [_])) (G.length + 1) _ g2 (by simp only [List.cons_append, List.append_assoc, List.nil_append, List.getElem?_cons_succ, List.getElem?_cons_zero, get_app, get_app0]) rfl (by rw [List.length_map, List.length_range]; omega) fun m hm => ?_
    obtain ⟨i, _, rfl⟩ := List.mem_map.mp hm
    exact memc _ _
  generalize O.lst (((List.range ((ys.length + 1) / 2)).map fun (i : Nat) => (cutX ys (some (0 + (i : Int) * 2)) (some (0 + (i : Int) * 2 + 2))).mergeSort strLe).map tupS) = o1
  split
  · refine ⟨by omega, by omega, ?_⟩
    refine compG (S := PB pl2 (R ++ stro ys :: (G ++ [o1]))) (f := fun i : Nat => W.int (0 + (i : Int))) (h := fun i => tupS ((cutX ys (some (0 + (i : Int))) (some (0 + (i : Int) + 2))).mergeSort strLe)) (xs := List.range ((ys.length : Int) - 1).toNat) (fun _ => trivial) (by rw [List.length_range]; omega) (fun i hi G2 K k => ?_) fun G2 => ?_
    · walk_at "dl"
      rw [cutW_map]
      refine sortE_strs (xs := cutX ys (some (0 + (i : Int))) (some (0 + (i : Int) + 2))) (by simp only [List.cons_append, List.append_assoc, List.nil_append, List.getElem?_cons_succ, List.getElem?_cons_zero, get_app, get_app0]) ?_
      rw [e_tupleL get_app0]
      have z := k (G2 ++ [stro (cutX ys (some (0 + (i : Int))) (some (0 + (i : Int) + 2))), stro ((cutX ys (some (0 + (i : Int))) (some (0 + (i : Int) + 2))).mergeSort strLe)])
      simp only [List.append_assoc, List.cons_append, List.nil_append] at z ⊢
      exact z
    · have em2 : (List.range ((ys.length : Int) - 1).toNat).map (fun (i : Nat) => tupS ((cutX ys (some (0 + (i : Int))) (some (0 + (i : Int) + 2))).mergeSort strLe)) = ((List.range ((ys.length : Int) - 1).toNat).map fun (i : Nat) => (cutX ys (some (0 + (i : Int))) (some (0 + (i : Int) + 2))).mergeSort strLe).map tupS := by
        rw [List.map_map]
        rfl
      rw [em2]
      walk_at "dl"
      refine fin pl2 ((List.range ((ys.length : Int) - 1).toNat).map fun (i : Nat) => (cutX ys (some (0 + (i : Int))) (some (0 + (i : Int) + 2))).mergeSort strLe) (stro ys :: (G ++ o1 :: (G2 ++ [_]))) (G.length + (G2.length + 1) + 1) _ g2 (by simp only [List.cons_append, List.append_assoc, List.nil_append, List.getElem?_cons_succ, List.getElem?_cons_zero, get_app, get_app0]) rfl (by rw [List.length_map, List.length_range]; omega) fun m hm => ?_
      obtain ⟨i, _, rfl⟩ := List.mem_map.mp hm
      exact memc _ _
  split
  · refine hn.seq (pl := pl2) (G := stro ys :: (G ++ [o1])) fun still hst => ?_
    refine compG (S := PB pl2 (R ++ stro ys :: (G ++ [o1]))) (f := W.str) (h := fun left => tupS ((names.filter fun x => decide (x ≠ left)).mergeSort strLe)) (xs := names) (fun G2 => by
      have z := hst (stro ys :: (G ++ [o1]) ++ G2)
      simp only [List.append_assoc, List.cons_append, List.nil_append] at z ⊢
      exact z) (by omega) (fun left hl G2 K k => ?_) fun G2 => ?_
    · walk_at "dl"
      refine hn.seq (pl := pl2) (G := stro ys :: (G ++ o1 :: G2)) fun still2 hst2 => ?_
      refine compN (f := W.str) (h := W.str) (p := fun x => decide (x ≠ left)) (hst2 _) (by omega) (fun x hx QT k2 => ?_) (fun x hx _ K2 k2 => ?_) ?_
      · walk_at "dl"
        simpa using k2
      · walk_at "dl"
        exact k2
      · refine sortE_strs (xs := names.filter fun x => decide (x ≠ left)) get_app0 ?_
        rw [e_tupleL get_app0]
        have z := k (G2 ++ [stro (names.filter fun x => decide (x ≠ left)), stro ((names.filter fun x => decide (x ≠ left)).mergeSort strLe)])
        simp only [List.append_assoc, List.cons_append, List.nil_append] at z ⊢
        exact z
    · have em2 : names.map (fun left => tupS ((names.filter fun x => decide (x ≠ left)).mergeSort strLe)) = (names.map fun left => (names.filter fun x => decide (x ≠ left)).mergeSort strLe).map tupS := by
        rw [List.map_map]
        rfl
      rw [em2]
      walk_at "dl"
      refine fin pl2 (names.map fun left => (names.filter fun x => decide (x ≠ left)).mergeSort strLe) (stro ys :: (G ++ o1 :: (G2 ++ [_]))) (G.length + (G2.length + 1) + 1) _ g2 (by simp only [List.cons_append, List.append_assoc, List.nil_append, List.getElem?_cons_succ, List.getElem?_cons_zero, get_app, get_app0]) rfl (by rw [List.length_map]; omega) fun m hm => ?_
      obtain ⟨i, _, rfl⟩ := List.mem_map.mp hm
      exact mem_sort (hn.nd.filter _) fun x hx => (List.mem_filter.mp hx).1
  split
  · cases ys with
    | nil => simp at yl; omega
    | cons y0 rest =>
      have nd : (y0 :: rest).Nodup := py.nodup_iff.mpr hn.nd
      have hsub : ∀ x ∈ y0 :: rest, x ∈ names := fun x hx => py.mem_iff.mp hx
      rw [List.map_cons, cut_from1]
      refine compG (S := PB pl2 (R ++ stro (y0 :: rest) :: (G ++ [o1, stro rest]))) (f := W.str) (h := fun x => tupS ([y0, x].mergeSort strLe)) (xs := rest) (fun G2 => by simp only [List.cons_append, List.append_assoc, List.nil_append, List.getElem?_cons_succ, List.getElem?_cons_zero, get_app, get_app0]) (by simp at yl; omega) (fun x hx G2 K k => ?_) fun G2 => ?_
      · walk_at "dl"
        refine sortE_strs (xs := [y0, x]) (by simp only [List.cons_append, List.append_assoc, List.nil_append, List.getElem?_cons_succ, List.getElem?_cons_zero, get_app, get_app0]; rfl) ?_
        rw [e_tupleL get_app0]
        have z := k (G2 ++ [stro [y0, x], stro ([y0, x].mergeSort strLe)])
        simp only [List.append_assoc, List.cons_append, List.nil_append] at z ⊢
        exact z
      · walk_at "dl"
        refine sortE_strs (xs := rest) (by simp only [List.cons_append, List.append_assoc, List.nil_append, List.getElem?_cons_succ, List.getElem?_cons_zero, get_app, get_app0]) ?_
        rw [e_tupleL get_app0]
        have em3 : rest.map (fun x => tupS ([y0, x].mergeSort strLe)) = (rest.map fun x => [y0, x].mergeSort strLe).map tupS := by
          rw [List.map_map]
          rfl
        rw [em3]
        rw [e_addL (a := (rest.map fun x => [y0, x].mergeSort strLe).map tupS) (b := [tupS (rest.mergeSort strLe)]) (by simp only [List.cons_append, List.append_assoc, List.nil_append, List.getElem?_cons_succ, List.getElem?_cons_zero, get_app, get_app0]) get_app0]
        refine ⟨le_sz (by simp at yl ⊢; omega), ?_⟩
        have em4 : (rest.map fun x => [y0, x].mergeSort strLe).map tupS ++ [tupS (rest.mergeSort strLe)] = ((rest.map fun x => [y0, x].mergeSort strLe) ++ [rest.mergeSort strLe]).map tupS := by
          rw [List.map_append]
          rfl
        rw [em4]
        walk_at "dl"
        refine fin pl2 ((rest.map fun x => [y0, x].mergeSort strLe) ++ [rest.mergeSort strLe]) (stro (y0 :: rest) :: (G ++ o1 :: stro rest :: (G2 ++ [_, _, _, _, _]))) (G.length + (G2.length + 4 + 1 + 1) + 1) _ g2 (by simp only [List.cons_append, List.append_assoc, List.nil_append, List.getElem?_cons_succ, List.getElem?_cons_zero, get_app, get_app0]; exact congrArg (fun l => some (O.lst l)) em4) (by first | rfl | omega) (by simp at yl ⊢; omega) fun m hm => ?_
        rcases List.mem_append.mp hm with hm | hm
        · obtain ⟨x, hx, rfl⟩ := List.mem_map.mp hm
          refine mem_sort ?_ fun z hz => hsub z ?_
          · refine List.nodup_cons.mpr ⟨fun h => ?_, List.nodup_cons.mpr ⟨List.not_mem_nil, List.nodup_nil⟩⟩
            rw [List.mem_singleton.mp h] at nd
            exact (List.nodup_cons.mp nd).1 hx
          · rcases List.mem_cons.mp hz with rfl | h
            · exact List.mem_cons_self ..
            · rw [List.mem_singleton.mp h]
              exact List.mem_cons_of_mem _ hx
        · rw [List.mem_singleton.mp hm]
          exact mem_sort (List.nodup_cons.mp nd).2 fun x hx => hsub x (List.mem_cons_of_mem _ hx)
  · have hn2 : OkNames (R ++ stro ys :: (G ++ [o1])) w names := hn.grow
    refine hn2.len ?_
    refine pick_ok g2 (by omega) fun pl3 p g3 p0 p1 => ?_
    walk_at "dl"
    refine ⟨by omega, by omega, ?_⟩
    rw [Int.toNat_natCast]
    refine compG (S := PB pl3 (R ++ stro ys :: (G ++ [o1]))) (f := fun i : Nat => W.int (0 + (i : Int))) (h := fun i => tupS (ascOf [yat ys (0 + (i : Int)), yat ys ((0 + (i : Int) + (1 + p)) % (ys.length : Int)), yat ys ((0 + (i : Int) + 2) % (ys.length : Int))])) (xs := List.range ys.length) (fun _ => trivial) (by rw [List.length_range]; omega) (fun i hi G2 K k => ?_) fun G2 => ?_
    · have hil := List.mem_range.mp hi
      walk_at "dl"
      have hpos : (0 : Int) < (ys.length : Int) := by omega
      have hat : ∀ X, (PB pl3 (R ++ stro ys :: X))[R.length + 1]? = some (.lst (ys.map W.str)) := fun X => by
        show (R ++ stro ys :: X)[R.length]? = _
        exact get_app0
      obtain ⟨a1, b1⟩ := yat_at (ys := ys) (e := 0 + (i : Int)) (by omega) (by omega)
      obtain ⟨a2, b2⟩ := yat_at (ys := ys) (e := (0 + (i : Int) + (1 + p)) % (ys.length : Int)) (Int.emod_nonneg _ (by omega)) (Int.emod_lt_of_pos _ hpos)
      obtain ⟨a3, b3⟩ := yat_at (ys := ys) (e := (0 + (i : Int) + 2) % (ys.length : Int)) (Int.emod_nonneg _ (by omega)) (Int.emod_lt_of_pos _ hpos)
      rw [e_ixAL (hat _) a1]
      walk_at "dl"
      refine ⟨hpos, ?_⟩
      rw [e_ixAL (hat _) a2]
      walk_at "dl"
      refine ⟨hpos, ?_⟩
      rw [e_ixAL (hat _) a3]
      refine sortSetK_strs (xs := [yat ys (0 + (i : Int)), yat ys ((0 + (i : Int) + (1 + p)) % (ys.length : Int)), yat ys ((0 + (i : Int) + 2) % (ys.length : Int))]) get_app0 (by simp) ?_
      rw [e_tupleL get_app0]
      have z := k (G2 ++ [stro [yat ys (0 + (i : Int)), yat ys ((0 + (i : Int) + (1 + p)) % (ys.length : Int)), yat ys ((0 + (i : Int) + 2) % (ys.length : Int))], stro (ascOf [yat ys (0 + (i : Int)), yat ys ((0 + (i : Int) + (1 + p)) % (ys.length : Int)), yat ys ((0 + (i : Int) + 2) % (ys.length : Int))])])
      simp only [List.append_assoc, List.cons_append, List.nil_append] at z ⊢
      exact z
    · have em2 : (List.range ys.length).map (fun (i : Nat) => tupS (ascOf [yat ys (0 + (i : Int)), yat ys ((0 + (i : Int) + (1 + p)) % (ys.length : Int)), yat ys ((0 + (i : Int) + 2) % (ys.length : Int))])) = ((List.range ys.length).map fun (i : Nat) => ascOf [yat ys (0 + (i : Int)), yat ys ((0 + (i : Int) + (1 + p)) % (ys.length : Int)), yat ys ((0 + (i : Int) + 2) % (ys.length : Int))]).map tupS := by
        rw [List.map_map]
        rfl
      rw [em2]
      walk_at "dl"
      refine fin pl3 ((List.range ys.length).map fun (i : Nat) => ascOf [yat ys (0 + (i : Int)), yat ys ((0 + (i : Int) + (1 + p)) % (ys.length : Int)), yat ys ((0 + (i : Int) + 2) % (ys.length : Int))]) (stro ys :: (G ++ o1 :: (G2 ++ [_]))) (G.length + (G2.length + 1) + 1) _ g3 (by simp only [List.cons_append, List.append_assoc, List.nil_append, List.getElem?_cons_succ, List.getElem?_cons_zero, get_app, get_app0]) rfl (by rw [List.length_map, List.length_range]; omega) fun m hm => ?_
      obtain ⟨i, hi, rfl⟩ := List.mem_map.mp hm
      have hil := List.mem_range.mp hi
      have hpos : (0 : Int) < (ys.length : Int) := by omega
      refine ⟨ascOf_asc _, fun x hx => py.mem_iff.mp ?_⟩
      have hx2 := (ascOf_mem _ x).mp hx
      simp only [List.mem_cons, List.not_mem_nil, or_false] at hx2
      rcases hx2 with rfl | rfl | rfl
      · exact (yat_at (by omega) (by omega)).2
      · exact (yat_at (Int.emod_nonneg _ (by omega)) (Int.emod_lt_of_pos _ hpos)).2
      · exact (yat_at (Int.emod_nonneg _ (by omega)) (Int.emod_lt_of_pos _ hpos)).2

end K66

namespace K66
open PySem PySem.Spec PyProof.Rows L2 TL DL KS
local macro_rules | `(tactic| walk_at "dl") => `(tactic| try simp (config := { decide := false }) only [e_seq, e_asg, e_nm, e_op, e_un, e_cb, e_c, e_var, e_ifs, e_tru, e_B, e_drop, e_bm, e_bm0, e_ret, e_retN, e_next, e_break, e_cont, e_nil, e_cons, e_tup, e_lst, e_sl, e_onone, e_osome, e_gsub, e_call, e_callk, e_and, e_or, e_not, e_andv, e_orv, e_notv, e_notU, e_isI, e_isS, e_isT, e_isR, e_isN, e_if, e_par, e_for, e_comp, e_iseq, e_rng1, e_rng3, e_zip, e_dictC, e_sc2, e_iseqF, e_yes, e_gtp, e_gc, e_gn0,
  e_addI, e_addS, e_addT, e_addL, e_i20, e_i2, e_neg, e_cmpI, e_cmpS, e_eqI, e_eqS, e_eqB, e_ixT, e_ixLit, e_ixL, e_ixS, e_set, e_ixAT, e_ixALit, e_ixAL, e_ixAS, e_ixAD, e_setAL, e_setAD, e_dict0, e_inAL, e_inAT, e_inAD, e_inAS, e_listAT, e_listALit, e_listAL, e_listAD, e_max2, e_extend, e_isalpha, e_enum, keyW, sz0, sz1, sz2, sz3, sz4, sz5, sz6, O.dk.injEq, e_slT, e_slLit, e_slS, e_slL, e_lenAS, e_lenAT, e_lenALit, e_lenAL, e_lenAD, e_lenS, e_lenT, e_lenLit, e_lenL, e_i1, e_intI, e_intB, e_strI, e_strS, e_listT, e_listLit, e_listL, e_tupleT, e_tupleL, e_append, e_pop0, e_tyL, e_tyS, e_truL, e_truT, e_truB, e_truI, e_truS, e_truN, e_seqT, e_seqLit, e_seqL, e_in, e_inT, e_isi, kit_ll, kit_ss, kit_tt, kit_ii, kit_ib, tyW_L, tyW_S, tyW_T, tyW_I, tyW_B, cut_to1, cut_to2, cut_from1, wipeW_nil, wipeW_cons, Nat.reduceAdd, eq_self, List.map_cons, List.map_nil,
  atI_0, atI_1, atI_2, atI_3, atI_4, atI_5, atI_end, ixN_0, ixN_1, ixN_11, ixN_last, List.map_append, List.map_cons, List.map_nil, get_app, get_app0, set_app, set_app0, List.cons_append, List.nil_append, List.append_assoc, List.length_append, List.length_cons, List.length_nil, Nat.zero_add, List.length_map, List.length_set,
  List.getElem?_cons_zero, List.getElem?_cons_succ, List.set_cons_zero, List.set_cons_succ, Option.some.injEq, exists_eq_left', exists_eq_left, exists_and_left, W.int.injEq, W.bl.injEq, W.str.injEq, W.tup.injEq, W.ref.injEq, O.lst.injEq, List.cons.injEq, reduceCtorEq, false_and, exists_false, or_false, false_or, true_and, and_true, decide_eq_true_eq, Bool.false_xor, Bool.true_xor, Bool.not_eq_true', decide_eq_false_iff_not, List.isEmpty_cons, List.isEmpty_nil, Bool.not_true, Bool.not_false, if_true, if_false, not_true_eq_false, not_false_eq_true, ne_eq, Bool.false_eq_true, reduceIte])


theorem strLe_dec (a b : Str) : strLe a b = decide (a.cps.toList ≤ b.cps.toList) := congrFun (congrFun (PySem.W.dataLe_str (fun x : Str => x)) a) b
theorem asc_pair {a b : Str} (h : a.cps.toList < b.cps.toList) : Asc [a, b] := by
  refine List.pairwise_cons.mpr ⟨fun x hx => ?_, List.pairwise_cons.mpr ⟨(fun x hx => nomatch hx), List.Pairwise.nil⟩⟩
  rw [List.mem_singleton.mp hx]
  refine ⟨?_, fun e => ?_⟩
  · rw [strLe_dec]
    exact decide_eq_true (List.le_of_lt h)
  · rw [e] at h
    exact List.lt_irrefl _ h
theorem mixed_fam {pl : List Int} {R : Sto} {w : DL.W} {F : Fam} {Q : WK} (g : Good pl) (h : SeqP R w (F.map tupS)) (hl : F.length ≤ 1000) (k : ∀ (pl' : List Int) (F' : Fam), Good pl' → F'.Perm F → Q (.ref (R.length + 1)) (PB pl' (R ++ [.lst (F'.map tupS)]))) : F_mixed [.ref 0, w] (PB pl R) Q :=
  mixed_ok g h (pureL_tups F) (by rw [List.length_map]; exact hl) fun pl' vs g' p => by
    obtain ⟨F', p', rfl⟩ := perm_maps p F rfl
    exact k pl' F' g' p'
/-! ### _law_forty -/
def F_forty : DSpec := fun ws S Q => ∃ pl R w names, ws = [.ref 0, w] ∧ S = PB pl R ∧ Good pl ∧ OkNames R w names ∧
  ∀ (pl' : List Int) (F : Fam), Good pl' → F.length ≤ 40 → (∀ m ∈ F, Mem names m) → Q (.ref (R.length + 1)) (PB pl' (R ++ [.lst (F.map tupS)]))
theorem forty_ok {pl : List Int} {R : Sto} {w : DL.W} {names : List Str} {Q : WK} (g : Good pl) (h : OkNames R w names) (k : ∀ (pl' : List Int) (F : Fam), Good pl' → F.length ≤ 40 → (∀ m ∈ F, Mem names m) → Q (.ref (R.length + 1)) (PB pl' (R ++ [.lst (F.map tupS)]))) : F_forty [.ref 0, w] (PB pl R) Q :=
  ⟨pl, R, w, names, rfl, rfl, g, h, k⟩
theorem vc_forty : ∀ ws S Q, Closed S → F_forty ws S Q → d_law_forty F_free F_mixed F_pick (endsW S.length Q) (startW N_law_forty.length ws) S := by
  rintro ws S Q cl ⟨pl, R, w, names, rfl, rfl, g, hn, q⟩
  show d_law_forty F_free F_mixed F_pick _ [some (.ref 0), some w, none, none, none, none] _
  unfold d_law_forty
  have nlo := hn.lo
  have nhi := hn.hi
  walk_at "dl"
  refine hn.seq (pl := pl) (G := [.lst []]) fun still hst => ?_
  refine forW_inv (fun i env S' => ∃ F x3 x4, S' = PB pl (R ++ [.lst ((F : Fam).map tupS)]) ∧ env = [some (.ref 0), some w, some (.ref (R.length + 1)), x3, x4, none] ∧ F.length ≤ 8 * i ∧ ∀ m ∈ F, Mem names m) ⟨[], none, none, rfl, rfl, by simp, fun m h => nomatch h⟩ ?_ ?_
  · rintro i x env S' hx ⟨F, x3, x4, rfl, rfl, hl, hF⟩ N hN
    obtain ⟨a, ha, rfl, ham, hi⟩ := map_get hx
    refine ⟨hst _, ?_⟩
    walk_at "dl"
    refine hn.seq (pl := pl) (G := [.lst (F.map tupS)]) fun still2 hst2 => ?_
    refine forW_inv (fun i2 env S' => ∃ F x4, S' = PB pl (R ++ [.lst ((F : Fam).map tupS)]) ∧ env = [some (.ref 0), some w, some (.ref (R.length + 1)), some (.str a), x4, none] ∧ F.length ≤ 8 * i + i2 ∧ ∀ m ∈ F, Mem names m) ⟨F, x4, rfl, rfl, hl, hF⟩ ?_ ?_
    · rintro i2 x env S' hx ⟨F, x4, rfl, rfl, hl, hF⟩ N2 hN2
      obtain ⟨b, hb, rfl, hbm, hi2⟩ := map_get hx
      refine ⟨hst2 _, ?_⟩
      walk_at "dl"
      split
      · rename_i hlt
        refine ⟨lt_sz (by omega), hN2 _ _ ⟨F ++ [[a, b]], _, ?_, rfl, by simp; omega, fun m hm => ?_⟩⟩
        · rw [List.map_append]
          rfl
        · rcases List.mem_append.mp hm with hm | hm
          · exact hF m hm
          · rw [List.mem_singleton.mp hm]
            refine ⟨asc_pair hlt, fun x hx => ?_⟩
            rcases List.mem_cons.mp hx with rfl | hx
            · exact ham
            · rw [List.mem_singleton.mp hx]
              exact hbm
      · exact hN2 _ _ ⟨F, _, rfl, rfl, by omega, hF⟩
    · rintro env S' ⟨F, x4, rfl, rfl, hl, hF⟩
      rw [List.length_map] at hl
      exact ⟨hst2 _, hN _ _ ⟨F, _, _, rfl, rfl, by omega, hF⟩⟩
  · rintro env S' ⟨F, x3, x4, rfl, rfl, hl, hF⟩
    rw [List.length_map] at hl
    refine ⟨hst _, ?_⟩
    walk_at "dl"
    refine free_ok g hn.grow (by decide) (by decide) fun pl2 F2 g2 hl2 hF2 => ?_
    walk_at "dl"
    refine mixed_fam (F := F) g2 (.inr ⟨R.length, rfl, by simp only [List.cons_append, List.append_assoc, List.nil_append, List.getElem?_cons_succ, List.getElem?_cons_zero, get_app, get_app0]⟩) (by omega) fun pl3 F3 g3 p3 => ?_
    walk_at "dl"
    refine pick_ok g3 (by decide) fun pl4 r g4 r0 r1 => ?_
    walk_at "dl"
    rw [cutW_map]
    refine compN (f := tupS) (h := tupS) (p := fun m => decide ((1 : Int) < (m.length : Int))) (xs := F2) (by simp only [List.cons_append, List.append_assoc, List.nil_append, List.getElem?_cons_succ, List.getElem?_cons_zero, get_app, get_app0]) (by omega) (fun m hm QT k => ?_) (fun m hm _ K k => ?_) ?_
    · walk_at "dl"
      unfold tupS
      walk_at "dl"
      exact k
    · walk_at "dl"
      exact k
    · walk_at "dl"
      have hc : (cutX F3 none (some (20 + r))).length ≤ F3.length := (cutX_sub (xs := F3)).length_le
      have hfl := List.length_filter_le (fun m : List Str => decide ((1 : Int) < (m.length : Int))) F2
      have e40 : cutW ((cutX F3 none (some (20 + r))).map tupS ++ (F2.filter fun m => decide ((1 : Int) < (m.length : Int))).map tupS) none (some 40) = ((cutX F3 none (some (20 + r)) ++ F2.filter fun m => decide ((1 : Int) < (m.length : Int))).take 40).map tupS := by
        rw [← List.map_append, show (some (40 : Int)) = some ((40 : Nat) : Int) from rfl, cut_to, List.map_take]
      rw [e40]
      have p3l := p3.length_eq
      simp only [Int.reduceToNat] at hl2
      refine ⟨le_sz (by omega), endPL (T := [_, _, _, _, _, _, _]) (k := 6) cl rfl rfl (pureL_tups _) (q pl4 _ g4 (by rw [List.length_take]; omega) fun m hm => ?_)⟩
      have hm2 := List.mem_of_mem_take hm
      rcases List.mem_append.mp hm2 with h | h
      · exact hF m (p3.mem_iff.mp ((cutX_sub (xs := F3)).subset h))
      · exact hF2 m (List.mem_filter.mp h).1
/-! ### _law_family -/
theorem famok {names : List Str} {F : Fam} (nd : names.Nodup) (hl : names.length ≤ 8) (hF : F.length ≤ 50) (h : ∀ m ∈ F, Mem names m) : OkFam F := ⟨hF, fun m hm => (h m hm).1, names, nd, hl, fun m hm => (h m hm).2⟩
def F_family : DSpec := fun ws S Q => ∃ pl R, ws = [.ref 0] ∧ S = PB pl R ∧ Good pl ∧ ∀ (pl' : List Int) (F : Fam), Good pl' → OkFam F → F.length ≤ 40 → Q (famW F) (PB pl' R)
theorem family_ok {pl : List Int} {R : Sto} {Q : WK} (g : Good pl) (k : ∀ (pl' : List Int) (F : Fam), Good pl' → OkFam F → F.length ≤ 40 → Q (famW F) (PB pl' R)) : F_family [.ref 0] (PB pl R) Q := ⟨pl, R, rfl, rfl, g, k⟩
theorem vc_family : ∀ ws S Q, Closed S → F_family ws S Q → d_law_family F_pick F_mixed F_names F_forty F_free F_shaped (endsW S.length Q) (startW N_law_family.length ws) S := by
  rintro ws S Q cl ⟨pl, R, rfl, rfl, g, q⟩
  show d_law_family F_pick F_mixed F_names F_forty F_free F_shaped _ [some (.ref 0), none, none, none] _
  unfold d_law_family
  walk_at "dl"
  refine pick_ok g (by decide) fun pl2 way g2 w0 w1 => ?_
  walk_at "dl"
  have at_ : ∀ {pl : List Int} {G : Sto} {k : Nat} {o : O}, G[k]? = some o → (PB pl (R ++ G))[R.length + k + 1]? = some o := fun {pl G k o} h => by
    show (R ++ G)[R.length + k]? = _
    rw [get_app]
    exact h
  have fin : ∀ (pl : List Int) (G : Sto) (F : Fam) (k : Nat) (names : List Str), Good pl → G[k]? = some (.lst (F.map tupS)) → names.Nodup → names.length ≤ 8 → (∀ m ∈ F, Mem names m) → F.length ≤ 40 →
      F_mixed [.ref 0, .ref (R.length + k + 1)] (PB pl (R ++ G)) fun w S1 => vTuple [w] S1 (Ends0 (R.length + 1) Q) := by
    intro pl G F k names gp hk nd hl hm hF
    refine mixed_fam (F := F) gp (.inr ⟨R.length + k, rfl, by rw [get_app]; exact hk⟩) (by omega) fun pl' F' g' p' => ?_
    have e : (R ++ G).length + 1 = (PB pl' (R ++ G)).length := rfl
    rw [e]
    have z : (PB pl' (R ++ G) ++ [O.lst (F'.map tupS)])[(PB pl' (R ++ G)).length]? = some (.lst (F'.map tupS)) := get_app0
    have z2 : PB pl' (R ++ G ++ [O.lst (F'.map tupS)]) = PB pl' (R ++ G) ++ [O.lst (F'.map tupS)] := rfl
    rw [z2, e_tupleL z]
    have pl2 := p'.length_eq
    have ok : OkFam F' := famok nd hl (by omega) fun m hm' => hm m (p'.mem_iff.mp hm')
    have q2 := endPT (pl' := pl') (w := famW F') (G ++ [O.lst (F'.map tupS)]) cl (pureL_tups F') (q pl' F' g' ok (by omega))
    rw [← List.append_assoc] at q2
    exact q2
  have fin2 : ∀ (pl : List Int) (G : Sto) (F : Fam) (k : Nat) (names : List Str), Good pl → G[k]? = some (.lst (F.map tupS)) → names.Nodup → names.length ≤ 8 → (∀ m ∈ F, Mem names m) → F.length ≤ 8 →
      F_pick [.ref 0, .int 3] (PB pl (R ++ G)) fun x S1 => vEq x (.int 0) S1 fun w_3 S1 => ∃ c, w_3 = .bl c ∧ if c = true then
          F_mixed [.ref 0, .ref (R.length + k + 1)] S1 fun x S1 => vSl x none (some 2) S1 fun y S2 => vAdd (.ref (R.length + k + 1)) y S2 fun w S1 => F_mixed [.ref 0, w] S1 fun w S1 => vTuple [w] S1 (Ends0 (R.length + 1) Q)
        else F_mixed [.ref 0, .ref (R.length + k + 1)] S1 fun w S1 => vTuple [w] S1 (Ends0 (R.length + 1) Q) := by
    intro pl G F k names gp hk nd hl hm hF
    refine pick_ok gp (by decide) fun pl2 x g2 _ _ => ?_
    refine ⟨_, rfl, ?_⟩
    split
    · refine mixed_fam (F := F) g2 (.inr ⟨R.length + k, rfl, by rw [get_app]; exact hk⟩) (by omega) fun pl3 F' g3 p3 => ?_
      have kl : k < G.length := (List.getElem?_eq_some_iff.mp hk).1
      have hs : (PB pl3 (R ++ G ++ [O.lst (F'.map tupS)]))[(R ++ G).length + 1]? = some (.lst (F'.map tupS)) := by
        show (R ++ G ++ _)[(R ++ G).length]? = _
        exact get_app0
      rw [e_slL hs, show (some (2 : Int)) = some ((2 : Nat) : Int) from rfl, cut_to]
      have ek : (PB pl3 (R ++ G ++ [O.lst (F'.map tupS)]) ++ [O.lst ((F'.map tupS).take 2)])[R.length + k + 1]? = some (.lst (F.map tupS)) := get_old (show (R ++ G ++ _)[R.length + k]? = _ from get_old (by rw [get_app]; exact hk))
      rw [e_addL ek get_app0]
      have p3l := p3.length_eq
      refine ⟨le_sz (by simp; omega), ?_⟩
      have e : F.map tupS ++ (F'.map tupS).take 2 = (F ++ F'.take 2).map tupS := by rw [List.map_append, List.map_take]
      rw [e]
      have z := fin pl3 (G ++ [O.lst (F'.map tupS), O.lst ((F'.map tupS).take 2), O.lst ((F ++ F'.take 2).map tupS)]) (F ++ F'.take 2) (G.length + 2) names g3 (by simp only [List.cons_append, List.append_assoc, List.nil_append, List.getElem?_cons_succ, List.getElem?_cons_zero, get_app, get_app0]) nd hl (fun m hm2 => by
        rcases List.mem_append.mp hm2 with h | h
        · exact hm m h
        · exact hm m (p3.mem_iff.mp (List.mem_of_mem_take h))) (by simp; omega)
      have e1 : PB pl3 (R ++ G ++ [O.lst (F'.map tupS)]) ++ [O.lst ((F'.map tupS).take 2)] ++ [O.lst ((F ++ F'.take 2).map tupS)] = PB pl3 (R ++ (G ++ [O.lst (F'.map tupS), O.lst ((F'.map tupS).take 2), O.lst ((F ++ F'.take 2).map tupS)])) := by simp
      have e2 : (PB pl3 (R ++ G ++ [O.lst (F'.map tupS)]) ++ [O.lst ((F'.map tupS).take 2)]).length = R.length + (G.length + 2) + 1 := by simp
      rw [e1, e2]
      exact z
    · exact fin pl2 G F k names g2 hk nd hl hm (by omega)
  by_cases h12 : way = 12
  · subst h12
    rw [if_pos rfl]
    refine names_ok g2 (by decide) (by decide) fun pl3 nm g3 nd hnl => ?_
    have hn0 : OkNames (R ++ [stro nm]) (.ref (R.length + 1)) nm := ⟨.inr ⟨R.length, rfl, get_app0⟩, nd, by rw [hnl]; decide, by rw [hnl]; decide⟩
    refine mixed_names g3 hn0 fun pl4 ys g4 py => ?_
    have yl := py.length_eq
    have ynd : ys.Nodup := py.nodup_iff.mpr nd
    have hn : ∀ X, OkNames (R ++ stro nm :: stro ys :: X) (.ref (R.length + 1 + 1)) ys := fun X => ⟨.inr ⟨R.length + 1, rfl, get_app (k := 1)⟩, ynd, by rw [yl, hnl]; decide, by rw [yl, hnl]; decide⟩
    walk_at "dl"
    refine forty_ok g4 (hn []) fun pl5 F g5 hl5 hF => ?_
    walk_at "dl"
    refine free_ok g5 (hn [_]) (by omega) (by omega) fun pl6 F2 g6 hl6 hF2 => ?_
    walk_at "dl"
    rw [if_neg (show ¬ (12 : Int) < 12 by decide), ← List.map_append]
    exact ⟨le_sz (by omega), fin pl6 [_, _, _, _, _] (F ++ F2) 4 ys g6 rfl ynd (by rw [yl, hnl]; decide) (fun m hm => by
      rcases List.mem_append.mp hm with h | h
      · exact hF m h
      · exact hF2 m h) (by rw [List.length_append]; omega)⟩
  · rw [if_neg h12]
    refine pick_ok g2 (by decide) fun pl3 m g3 m0 m1 => ?_
    walk_at "dl"
    refine names_ok g3 (by omega) (by omega) fun pl4 nm g4 nd hnl => ?_
    have hn0 : OkNames (R ++ [stro nm]) (.ref (R.length + 1)) nm := ⟨.inr ⟨R.length, rfl, get_app0⟩, nd, by omega, by omega⟩
    refine mixed_names g4 hn0 fun pl5 ys g5 py => ?_
    have yl := py.length_eq
    have ynd : ys.Nodup := py.nodup_iff.mpr nd
    have hn : ∀ X, OkNames (R ++ stro nm :: stro ys :: X) (.ref (R.length + 1 + 1)) ys := fun X => ⟨.inr ⟨R.length + 1, rfl, get_app (k := 1)⟩, ynd, by omega, by omega⟩
    rw [if_neg h12]
    walk_at "dl"
    split
    · refine pick_ok g5 (by decide) fun pl6 n g6 n0 n1 => ?_
      refine free_ok g6 (hn []) (by omega) (by omega) fun pl7 F g7 hl7 hF => ?_
      walk_at "dl"
      rw [if_pos (show way < 12 by omega)]
      exact fin2 pl7 [_, _, _] F 2 ys g7 rfl ynd (by omega) hF (by omega)
    · refine shaped_ok g5 (hn []) fun pl6 F g6 hl6 hF => ?_
      walk_at "dl"
      rw [if_pos (show way < 12 by omega), show (some (8 : Int)) = some ((8 : Nat) : Int) from rfl, cut_to, ← List.map_take]
      exact fin2 pl6 [_, _, _, _] (F.take 8) 3 ys g6 rfl ynd (by omega) (fun m hm => hF m (List.mem_of_mem_take hm)) (by rw [List.length_take]; omega)

end K66

namespace K66
open PySem PySem.Spec PyProof.Rows L2 TL DL KS
local macro_rules | `(tactic| walk_at "dl") => `(tactic| try simp (config := { decide := false }) only [e_seq, e_asg, e_nm, e_op, e_un, e_cb, e_c, e_var, e_ifs, e_tru, e_B, e_drop, e_bm, e_bm0, e_ret, e_retN, e_next, e_break, e_cont, e_nil, e_cons, e_tup, e_lst, e_sl, e_onone, e_osome, e_gsub, e_call, e_callk, e_and, e_or, e_not, e_andv, e_orv, e_notv, e_notU, e_isI, e_isS, e_isT, e_isR, e_isN, e_if, e_par, e_for, e_comp, e_iseq, e_rng1, e_rng3, e_zip, e_dictC, e_sc2, e_iseqF, e_yes, e_gtp, e_gc, e_gn0,
  e_addI, e_addS, e_addT, e_addL, e_i20, e_i2, e_neg, e_cmpI, e_cmpS, e_eqI, e_eqS, e_eqB, e_ixT, e_ixLit, e_ixL, e_ixS, e_set, e_ixAT, e_ixALit, e_ixAL, e_ixAS, e_ixAD, e_setAL, e_setAD, e_dict0, e_inAL, e_inAT, e_inAD, e_inAS, e_listAT, e_listALit, e_listAL, e_listAD, e_max2, e_extend, e_isalpha, e_enum, keyW, sz0, sz1, sz2, sz3, sz4, sz5, sz6, O.dk.injEq, e_slT, e_slLit, e_slS, e_slL, e_lenAS, e_lenAT, e_lenALit, e_lenAL, e_lenAD, e_lenS, e_lenT, e_lenLit, e_lenL, e_i1, e_intI, e_intB, e_strI, e_strS, e_listT, e_listLit, e_listL, e_tupleT, e_tupleL, e_append, e_pop0, e_tyL, e_tyS, e_truL, e_truT, e_truB, e_truI, e_truS, e_truN, e_seqT, e_seqLit, e_seqL, e_in, e_inT, e_isi, kit_ll, kit_ss, kit_tt, kit_ii, kit_ib, tyW_L, tyW_S, tyW_T, tyW_I, tyW_B, cut_to1, cut_to2, cut_from1, wipeW_nil, wipeW_cons, Nat.reduceAdd, eq_self, List.map_cons, List.map_nil,
  atI_0, atI_1, atI_2, atI_3, atI_4, atI_5, atI_end, ixN_0, ixN_1, ixN_11, ixN_last, List.map_append, List.map_cons, List.map_nil, get_app, get_app0, set_app, set_app0, List.cons_append, List.nil_append, List.append_assoc, List.length_append, List.length_cons, List.length_nil, Nat.zero_add, List.length_map, List.length_set,
  List.getElem?_cons_zero, List.getElem?_cons_succ, List.set_cons_zero, List.set_cons_succ, Option.some.injEq, exists_eq_left', exists_eq_left, exists_and_left, W.int.injEq, W.bl.injEq, W.str.injEq, W.tup.injEq, W.ref.injEq, O.lst.injEq, List.cons.injEq, reduceCtorEq, false_and, exists_false, or_false, false_or, true_and, and_true, decide_eq_true_eq, Bool.false_xor, Bool.true_xor, Bool.not_eq_true', decide_eq_false_iff_not, List.isEmpty_cons, List.isEmpty_nil, Bool.not_true, Bool.not_false, if_true, if_false, not_true_eq_false, not_false_eq_true, ne_eq, Bool.false_eq_true, reduceIte])

theorem Ends0_lastO {n : Nat} {Q : WK} {S T : Sto} {k : Nat} {o1 : O} (hn : n ≤ S.length) (cl : Closed S) (hk : T[k]? = some o1) (hr : ∀ f, o1.ren f = o1) (hb : ∀ m, o1.bnd m = true) (q : Q (.ref S.length) (S ++ [o1])) : Ends0 n Q (.ref (S.length + k)) (S ++ T) := by
  have hf : ∀ i, i < S.length → (List.range S.length ++ [S.length + k])[i]? = some i := fun i hi => by
    rw [List.getElem?_append_left (by rw [List.length_range]; exact hi)]
    exact List.getElem?_range hi
  have hlast : (List.range S.length ++ [S.length + k])[S.length]? = some (S.length + k) := by
    have z := get_app0 (R := List.range S.length) (L := [S.length + k])
    rw [List.length_range] at z
    exact z
  have hlen : (List.range S.length ++ [S.length + k]).length = S.length + 1 := by simp
  refine ⟨List.range S.length ++ [S.length + k], S ++ [o1], .ref S.length, by simp, fun i hi => hf i (by omega), ?_, fun i o ho => ?_, ?_, ?_, q⟩
  · refine List.nodup_append.mpr ⟨List.nodup_range, by simp, fun a ha b hb e => ?_⟩
    rw [List.mem_singleton.mp hb] at e
    have := List.mem_range.mp ha
    omega
  · rw [hlen]
    by_cases hi : i < S.length
    · rw [List.getElem?_append_left hi] at ho
      have b := cl i o ho
      refine ⟨O_bnd_mono (Nat.le_succ _) o b, i, hf i hi, ?_⟩
      rw [List.getElem?_append_left hi, ho, O_ren_ext hf o b]
    · have e : i = S.length := by
        have := (List.getElem?_eq_some_iff.mp ho).1
        rw [List.length_append] at this
        simp at this
        omega
      subst e
      rw [get_app0] at ho
      have e2 : o1 = o := Option.some.inj ho
      subst e2
      refine ⟨hb _, S.length + k, hlast, ?_⟩
      rw [get_app, hk, hr]
  · show W.ref _ = W.ref (List.getD _ _ _)
    rw [List.getD_eq_getElem?_getD, hlast]
    rfl
  · refine decide_eq_true ?_
    rw [hlen]
    exact Nat.lt_succ_self _
theorem priceW_pure (ps : Prices) : W.pureL (ps.map priceW) = true := by
  induction ps with
  | nil => rfl
  | cons p ps ih =>
    show (true && W.pureL (ps.map priceW)) = true
    rw [ih]
    rfl
theorem ft_ren (ps : Prices) (f : List Nat) : (O.ft (ps.map priceW)).ren f = .ft (ps.map priceW) := by
  show O.ft (W.renL f _) = _
  rw [renL_pure _ _ (priceW_pure ps)]
theorem ft_bnd (ps : Prices) (m : Nat) : (O.ft (ps.map priceW)).bnd m = true := pure_bnd m (.tup (ps.map priceW)) (priceW_pure ps)
/-! ### _law_prices -/
def F_prices : DSpec := fun ws S Q => ∃ pl R fam, ws = [.ref 0, famW fam] ∧ S = PB pl R ∧ Good pl ∧ OkFam fam ∧ ∀ (pl' : List Int) (ps : Prices), Good pl' → OkPrices ps fam → Q (.ref (R.length + 1)) (PB pl' (R ++ [.ft (ps.map priceW)]))
theorem prices_ok {pl : List Int} {R : Sto} {fam : Fam} {Q : WK} (g : Good pl) (ok : OkFam fam) (k : ∀ (pl' : List Int) (ps : Prices), Good pl' → OkPrices ps fam → Q (.ref (R.length + 1)) (PB pl' (R ++ [.ft (ps.map priceW)]))) : F_prices [.ref 0, famW fam] (PB pl R) Q := ⟨pl, R, fam, rfl, rfl, g, ok, k⟩
theorem vc_prices : ∀ ws S Q, Closed S → F_prices ws S Q → d_law_prices F_pick F_mixed (endsW S.length Q) (startW N_law_prices.length ws) S := by
  rintro ws S Q cl ⟨pl, R, fam, rfl, rfl, g, ok, q⟩
  show d_law_prices F_pick F_mixed _ [some (.ref 0), some (famW fam), none, none, none, none, none] _
  unfold d_law_prices
  walk_at "dl"
  refine names_loop (S := PB pl R) ok (fun _ => trivial) (I := fun env => ∃ x3, env = [some (.ref 0), some (famW fam), some (.ref (R.length + 1)), x3, none, none, none]) ⟨none, rfl⟩ ?_ ?_
  · rintro m names G env N hm hn ⟨x3, rfl⟩ k
    have ms := ok.short hm
    unfold tupS
    walk_at "dl"
    refine compN (p := fun x => decide (x ∉ names)) (h := W.str) trivial (by omega) (fun a ha QT k => ?_) (fun a ha _ K k => ?_) ?_
    · walk_at "dl"
      refine ⟨rfl, flW_strs names, ?_⟩
      rw [inW_dec]
      simpa using k
    · walk_at "dl"
      exact k
    · walk_at "dl"
      have fl := List.length_filter_le (fun x => decide (x ∉ names)) m
      refine ⟨le_sz (by omega), ?_⟩
      rw [← List.map_append]
      exact k _ _ ⟨_, rfl⟩
  · rintro names G env hn ⟨x3, rfl⟩
    have hnl := hn.len ok
    walk_at "dl"
    refine pick_ok (R := R ++ stro names :: G) g (by decide) fun pl2 habit g2 b0 b1 => ?_
    walk_at "dl"
    refine mixed_ok (us := names.map W.str) g2 (.inr ⟨R.length, rfl, by simp only [List.cons_append, List.append_assoc, List.nil_append, List.getElem?_cons_succ, List.getElem?_cons_zero, get_app, get_app0]⟩) (pureL_strs _) (by rw [List.length_map]; omega) fun pl3 vs g3 pv => ?_
    obtain ⟨ys, py, rfl⟩ := perm_maps pv names rfl
    have yl := py.length_eq
    walk_at "dl"
    refine forW_inv (fun i env S' => ∃ pl ps G2 x6, S' = PB pl (R ++ stro names :: (G ++ .lst ((ps : Prices).map priceW) :: stro ys :: G2)) ∧ Good pl ∧ env = [some (.ref 0), some (famW fam), some (.ref (R.length + 1)), x3, some (.int habit), some (.ref (R.length + (G.length + 1) + 1)), x6] ∧ ps.map (·.1) = ys.take i) ⟨pl3, [], [], none, rfl, g3, rfl, rfl⟩ ?_ ?_
    · rintro i x env S' hx ⟨pl4, ps, G2, x6, rfl, g4, rfl, hps⟩ N hN
      obtain ⟨a, ha, rfl, ham, hi⟩ := map_get hx
      refine ⟨by simp only [List.cons_append, List.append_assoc, List.nil_append, List.getElem?_cons_succ, List.getElem?_cons_zero, get_app, get_app0], ?_⟩
      have hpl : ps.length ≤ 8 := by
        have := congrArg List.length hps
        rw [List.length_map, List.length_take] at this
        omega
      walk_at "dl"
      refine pick_ok g4 (by decide) fun pl5 p1 g5 _ _ => ?_
      walk_at "dl"
      refine pick_ok g5 (by decide) fun pl6 p2 g6 _ _ => ?_
      walk_at "dl"
      refine ⟨⟨by decide, by decide, by decide⟩, ?_⟩
      refine pick_ok g6 (by decide) fun pl7 p3 g7 _ _ => ?_
      walk_at "dl"
      obtain ⟨v, _, _, hv⟩ := at_map (f := W.int) (xs := [1, 1 + p1, 1 + p2, 10 ^ (6 : Int).toNat - p3]) b0 b1
      simp only [List.map_cons, List.map_nil] at hv
      have hat : (PB pl7 (R ++ stro names :: (G ++ .lst (ps.map priceW) :: stro ys :: (G2 ++ [O.lst [W.int 1, W.int (1 + p1), W.int (1 + p2), W.int (10 ^ (6 : Int).toNat - p3)]]))))[R.length + (G.length + (G2.length + 1 + 1) + 1) + 1]? = some (O.lst [W.int 1, W.int (1 + p1), W.int (1 + p2), W.int (10 ^ (6 : Int).toNat - p3)]) := by simp only [List.cons_append, List.append_assoc, List.nil_append, List.getElem?_cons_succ, List.getElem?_cons_zero, get_app, get_app0]
      rw [e_ixAL hat hv]
      walk_at "dl"
      refine ⟨lt_sz (by omega), hN _ _ ⟨pl7, ps ++ [(a, v)], G2 ++ [O.lst [W.int 1, W.int (1 + p1), W.int (1 + p2), W.int (10 ^ (6 : Int).toNat - p3)]], some (.str a), ?_, g7, rfl, ?_⟩⟩
      · rw [List.map_append]
        rfl
      · rw [take_snoc ha, List.map_append, hps]
        rfl
    · rintro env S' ⟨pl4, ps, G2, x6, rfl, g4, rfl, hps⟩
      rw [List.length_map, List.take_length] at hps
      refine ⟨by simp only [List.cons_append, List.append_assoc, List.nil_append, List.getElem?_cons_succ, List.getElem?_cons_zero, get_app, get_app0], ?_⟩
      walk_at "dl"
      have hpl : ps.length = ys.length := by
        have := congrArg List.length hps
        rwa [List.length_map] at this
      refine ⟨ps.map priceW, by simp only [List.cons_append, List.append_assoc, List.nil_append, List.getElem?_cons_succ, List.getElem?_cons_zero, get_app, get_app0], ?_⟩
      have op : OkPrices ps fam := ⟨by rw [hps]; exact py.nodup_iff.mpr hn.nd, by omega, fun m hm x hx => by rw [hps]; exact py.mem_iff.mpr ((hn.mem x).mpr ⟨m, hm, hx⟩)⟩
      have z := Ends0_lastO (n := R.length + 1) (Q := Q) (S := PB pl4 R) (T := stro names :: (G ++ .lst (ps.map priceW) :: stro ys :: (G2 ++ [.ft (ps.map priceW)]))) (k := G.length + (G2.length + 1 + 1) + 1) (o1 := .ft (ps.map priceW)) (Nat.le_refl _) (closed_PB cl) (by simp only [List.cons_append, List.append_assoc, List.nil_append, List.getElem?_cons_succ, List.getElem?_cons_zero, get_app, get_app0]) (ft_ren ps) (ft_bnd ps) (q pl4 ps g4 op)
      have e1 : (PB pl4 (R ++ stro names :: (G ++ O.lst (ps.map priceW) :: stro ys :: G2))).length = (PB pl4 R).length + (G.length + (G2.length + 1 + 1) + 1) := by simp; omega
      have e2 : PB pl4 (R ++ stro names :: (G ++ O.lst (ps.map priceW) :: stro ys :: G2)) ++ [O.ft (ps.map priceW)] = PB pl4 R ++ stro names :: (G ++ .lst (ps.map priceW) :: stro ys :: (G2 ++ [.ft (ps.map priceW)])) := by simp
      rw [e1, e2]
      exact z

end K66

namespace K66
open PySem PySem.Spec PyProof.Rows L2 TL DL KS
local macro_rules | `(tactic| walk_at "dl") => `(tactic| try simp (config := { decide := false }) only [e_seq, e_asg, e_nm, e_op, e_un, e_cb, e_c, e_var, e_ifs, e_tru, e_B, e_drop, e_bm, e_bm0, e_ret, e_retN, e_next, e_break, e_cont, e_nil, e_cons, e_tup, e_lst, e_sl, e_onone, e_osome, e_gsub, e_call, e_callk, e_and, e_or, e_not, e_andv, e_orv, e_notv, e_notU, e_isI, e_isS, e_isT, e_isR, e_isN, e_if, e_par, e_for, e_comp, e_iseq, e_rng1, e_rng3, e_zip, e_dictC, e_sc2, e_iseqF, e_yes, e_gtp, e_gc, e_gn0,
  e_addI, e_addS, e_addT, e_addL, e_i20, e_i2, e_neg, e_cmpI, e_cmpS, e_eqI, e_eqS, e_eqB, e_ixT, e_ixLit, e_ixL, e_ixS, e_set, e_ixAT, e_ixALit, e_ixAL, e_ixAS, e_ixAD, e_setAL, e_setAD, e_dict0, e_inAL, e_inAT, e_inAD, e_inAS, e_listAT, e_listALit, e_listAL, e_listAD, e_max2, e_extend, e_isalpha, e_enum, keyW, sz0, sz1, sz2, sz3, sz4, sz5, sz6, O.dk.injEq, e_slT, e_slLit, e_slS, e_slL, e_lenAS, e_lenAT, e_lenALit, e_lenAL, e_lenAD, e_lenS, e_lenT, e_lenLit, e_lenL, e_i1, e_intI, e_intB, e_strI, e_strS, e_listT, e_listLit, e_listL, e_tupleT, e_tupleL, e_append, e_pop0, e_tyL, e_tyS, e_truL, e_truT, e_truB, e_truI, e_truS, e_truN, e_seqT, e_seqLit, e_seqL, e_in, e_inT, e_isi, kit_ll, kit_ss, kit_tt, kit_ii, kit_ib, tyW_L, tyW_S, tyW_T, tyW_I, tyW_B, cut_to1, cut_to2, cut_from1, wipeW_nil, wipeW_cons, Nat.reduceAdd, eq_self, List.map_cons, List.map_nil,
  atI_0, atI_1, atI_2, atI_3, atI_4, atI_5, atI_end, ixN_0, ixN_1, ixN_11, ixN_last, List.map_append, List.map_cons, List.map_nil, get_app, get_app0, set_app, set_app0, List.cons_append, List.nil_append, List.append_assoc, List.length_append, List.length_cons, List.length_nil, Nat.zero_add, List.length_map, List.length_set,
  List.getElem?_cons_zero, List.getElem?_cons_succ, List.set_cons_zero, List.set_cons_succ, Option.some.injEq, exists_eq_left', exists_eq_left, exists_and_left, W.int.injEq, W.bl.injEq, W.str.injEq, W.tup.injEq, W.ref.injEq, O.lst.injEq, List.cons.injEq, reduceCtorEq, false_and, exists_false, or_false, false_or, true_and, and_true, decide_eq_true_eq, Bool.false_xor, Bool.true_xor, Bool.not_eq_true', decide_eq_false_iff_not, List.isEmpty_cons, List.isEmpty_nil, Bool.not_true, Bool.not_false, if_true, if_false, not_true_eq_false, not_false_eq_true, ne_eq, Bool.false_eq_true, reduceIte])


section
variable {α : Type} {f h : α → DL.W} {p : α → Bool} {xs : List α} {i : Nat} {tt : DT} {te : DE} {vs : List Nat} {still : Sto → Prop} {env : Slots} {Q : WK} {S : Sto}
theorem compNG (st : ∀ G, still (S ++ G)) (hl : xs.length ≤ 99998) (ht : ∀ a ∈ xs, ∀ (G : Sto) (QT : Bool → Sto → Prop), (∀ G', QT (p a) (S ++ G')) → tt ((wipeW env vs).set i (some (f a))) (S ++ G) QT)
    (he : ∀ a ∈ xs, p a = true → ∀ (G : Sto) (K : DL.W → Sto → Prop), (∀ G', K (h a) (S ++ G')) → te ((wipeW env vs).set i (some (f a))) (S ++ G) K) (q : ∀ G, Q (.ref (S ++ G).length) (S ++ G ++ [.lst ((xs.filter p).map h)])) : compW (gNm i) tt te vs still env Q (xs.map f) [] S := by
  refine compW_inv (fun k acc S' => (∃ G, S' = S ++ G) ∧ acc = ((xs.take k).filter p).map h) ⟨⟨[], by simp⟩, by simp⟩ ?_ ?_
  · rintro k x acc S' hx ⟨⟨G, rfl⟩, rfl⟩ N hN
    obtain ⟨a, ha, rfl, hm, hk⟩ := map_get hx
    refine ⟨st G, ?_⟩
    show tt _ _ _
    refine ht a hm G _ fun G' => ?_
    cases hp : p a with
    | true =>
      rw [if_pos rfl]
      refine he a hm hp G' _ fun G2 => ⟨?_, hN _ _ ⟨⟨G2, rfl⟩, ?_⟩⟩
      · refine lt_sz ?_
        rw [List.length_map]
        have := List.length_filter_le p (xs.take k)
        rw [List.length_take] at this
        omega
      · rw [take_snoc ha, List.filter_append, List.map_append, List.filter_cons_of_pos hp]
        rfl
    | false =>
      rw [if_neg Bool.false_ne_true]
      refine hN _ _ ⟨⟨G', rfl⟩, ?_⟩
      rw [take_snoc ha, List.filter_append, List.map_append, List.filter_cons_of_neg (by rw [hp]; exact Bool.false_ne_true)]
      simp
  · rintro acc S' ⟨⟨G, rfl⟩, rfl⟩
    rw [List.length_map, List.take_length]
    exact ⟨st G, q G⟩
end
/-! ### sorted(set(..)) of tuples of texts -/
theorem nkWs_strs : ∀ a b : List Str, nkWs (a.map W.str) = nkWs (b.map W.str) → a = b
  | [], [], _ => rfl
  | [], _ :: _, h => by simp [nkWs] at h
  | _ :: _, [], h => by simp [nkWs] at h
  | x :: a, y :: b, h => by
    simp only [List.map_cons, nkWs, nkW] at h
    obtain ⟨h1, h2⟩ := List.cons.inj h
    have e : x = y := by injection h1
    rw [e, nkWs_strs a b h2]
theorem nkW_tupS {a b : List Str} (h : nkW (tupS a) = nkW (tupS b)) : a = b := by
  have h2 : NestedKey.tup (nkWs (a.map W.str)) = NestedKey.tup (nkWs (b.map W.str)) := h
  injection h2 with h3
  exact nkWs_strs a b h3
theorem hk_strs : ∀ a : List Str, W.hkL (a.map W.str) = true
  | [] => rfl
  | x :: a => by
    show (true && W.hkL (a.map W.str)) = true
    rw [hk_strs a]
    rfl
theorem dep_nk (a : List Str) : (nkW (tupS a)).depth ≤ 8 := by
  have e : ∀ a : List Str, NestedKey.depthAll (nkWs (a.map W.str)) = 0 := by
    intro a
    induction a with
    | nil => rfl
    | cons x a ih =>
      show max (NestedKey.depth (.text x)) (NestedKey.depthAll (nkWs (a.map W.str))) = 0
      rw [ih]
      rfl
  show NestedKey.depthAll (nkWs (a.map W.str)) + 1 ≤ 8
  rw [e a]
  decide
theorem setOk_tups {F : Fam} (hl : F.length < 64) (hne : ∀ m ∈ F, m ≠ []) : SetOk (F.map tupS) := by
  refine ⟨by rw [List.length_map]; exact hl, fun w hw => ?_, fun w hw => ?_, fun w hw => ?_, ?_, ?_, fun w hw => ?_⟩
  · obtain ⟨a, _, rfl⟩ := List.mem_map.mp hw
    exact ⟨_, rfl⟩
  · obtain ⟨a, _, rfl⟩ := List.mem_map.mp hw
    exact hk_strs a
  · obtain ⟨a, _, rfl⟩ := List.mem_map.mp hw
    exact dep_nk a
  · intro x hx y hy
    rw [List.map_map] at hx hy
    obtain ⟨a, _, rfl⟩ := List.mem_map.mp hx
    obtain ⟨b, _, rfl⟩ := List.mem_map.mp hy
    show PySem.W.alike (.tuple (datWs (a.map W.str))) (.tuple (datWs (b.map W.str))) = true
    simp only [PySem.W.alike, alike_strs2]
  · refine .inl fun x hx => ?_
    rw [List.map_map] at hx
    obtain ⟨a, ha, rfl⟩ := List.mem_map.mp hx
    cases a with
    | nil => exact absurd rfl (hne [] ha)
    | cons z r => exact ⟨_, _, rfl⟩
  · obtain ⟨a, _, rfl⟩ := List.mem_map.mp hw
    show (PyData.tuple (datWs (a.map W.str))).depth ≤ 60
    rw [dat_strs]
    simp only [PyData.depth, dep_strs]
    decide
theorem pick_tups {F : Fam} {us : List DL.W} (h : SetPick (F.map tupS) us) : ∃ xs : Fam, us = xs.map tupS ∧ xs.Nodup ∧ ∀ c, c ∈ xs ↔ c ∈ F := by
  have ex : ∀ us : List DL.W, (∀ u ∈ us, u ∈ F.map tupS) → ∃ xs : Fam, us = xs.map tupS ∧ ∀ c ∈ xs, c ∈ F := by
    intro us
    induction us with
    | nil => exact fun _ => ⟨[], rfl, fun c h => nomatch h⟩
    | cons u us ih =>
      intro h
      obtain ⟨a, ha, rfl⟩ := List.mem_map.mp (h u (List.mem_cons_self ..))
      obtain ⟨xs, rfl, hx⟩ := ih fun v hv => h v (List.mem_cons_of_mem _ hv)
      exact ⟨a :: xs, rfl, fun c hc => (List.mem_cons.mp hc).elim (fun e => e ▸ ha) (hx c)⟩
  obtain ⟨xs, rfl, hx⟩ := ex us h.sub
  refine ⟨xs, rfl, ?_, fun c => ⟨hx c, fun hc => ?_⟩⟩
  · have nd := h.nd
    rw [List.map_map] at nd
    rw [List.nodup_iff_pairwise_ne] at nd ⊢
    rw [List.pairwise_map] at nd
    exact nd.imp fun h e => h (congrArg _ e)
  · have z := h.all (tupS c) (List.mem_map_of_mem hc)
    rw [List.map_map] at z
    obtain ⟨d, hd, e⟩ := List.mem_map.mp z
    rw [nkW_tupS e.symm]
    exact hd
theorem sortSet_tups {F : Fam} {S : Sto} {Q : WK} {i : Nat} (h : S[i]? = some (.lst (F.map tupS))) (hl : F.length < 64) (hne : ∀ m ∈ F, m ≠ []) (q : ∀ xs : Fam, xs.Nodup → (∀ c, c ∈ xs ↔ c ∈ F) → Q (.ref S.length) (S ++ [.lst ((xs.mergeSort tupLe).map tupS)])) : vSortSet [.ref i] S Q := by
  refine ⟨F.map tupS, h, setOk_tups hl hne, fun us hus => ?_⟩
  obtain ⟨xs, rfl, nd, mem⟩ := pick_tups hus
  have e : (xs.map tupS).mergeSort leW = (xs.mergeSort tupLe).map tupS := (List.map_mergeSort (r := tupLe) (s := leW) (f := tupS) (l := xs) fun _ _ _ _ => rfl).symm
  rw [e]
  exact q xs nd mem
/-- how many least sets there are -/
theorem least_len {fam L : Fam} (ok : OkFam fam) (hL : IsLeast fam L) : L.length ≤ 256 := by
  obtain ⟨U, nd, hl, hU⟩ := ok.U
  have hN : Asc (U.mergeSort strLe) := asc_sort nd
  have h1 : L.length ≤ (pw (U.mergeSort strLe)).length := List.Nodup.length_le_of_subset hL.nd fun c hc => by
    have hmin := (hL.mem c).mp hc
    refine (mem_pw _ c).mpr (sublist_of_asc hN hmin.1 fun x hx => ?_)
    obtain ⟨m, hm, hxm⟩ := min_names hmin x hx
    exact List.mem_mergeSort.mpr (hU m hm x hxm)
  have h2 := lsts_len (N := U.mergeSort strLe) (by rw [List.length_mergeSort]; exact hl)
  omega
theorem least_ok {fam L : Fam} (ok : OkFam fam) (hL : IsLeast fam L) (hl : L.length ≤ 50) : OkFam L := by
  obtain ⟨U, nd, hu, hU⟩ := ok.U
  refine ⟨hl, fun c hc => ((hL.mem c).mp hc).1, U, nd, hu, fun c hc x hx => ?_⟩
  obtain ⟨m, hm, hxm⟩ := min_names ((hL.mem c).mp hc) x hx
  exact hU m hm x hxm
theorem least_mem_len {fam L : Fam} (ok : OkFam fam) (hL : IsLeast fam L) : ∀ c ∈ L, c.length ≤ 8 := fun c hc => min_len ok ((hL.mem c).mp hc)
theorem best_len {fam L : Fam} {ps : Prices} (ok : OkFam fam) (hL : IsLeast fam L) : ∀ k c, cheap (cost ps) L = some (k, c) → c.length ≤ 8 := fun k c h => by
  rcases cheap_mem (cost ps) L none k c h with h | h
  · exact least_mem_len ok hL c h
  · cases h
/-! ### _law_asked -/
def F_asked : DSpec := fun ws S Q => ∃ pl R fam, ws = [.ref 0, famW fam] ∧ S = PB pl R ∧ Good pl ∧ OkFam fam ∧ fam.length ≤ 40 ∧ ∀ pl' : List Int, Good pl' → Q (.bl true) (PB pl' R)
theorem asked_ok {pl : List Int} {R : Sto} {fam : Fam} {Q : WK} (g : Good pl) (ok : OkFam fam) (hl : fam.length ≤ 40) (k : ∀ pl' : List Int, Good pl' → Q (.bl true) (PB pl' R)) : F_asked [.ref 0, famW fam] (PB pl R) Q := ⟨pl, R, fam, rfl, rfl, g, ok, hl, k⟩
theorem hitting_ok {fam : Fam} {S : Sto} {Q : WK} (ok : OkFam fam) (k : ∀ L, IsLeast fam L → Q (famW L) S) : F_hitting [famW fam] S Q := ⟨fam, rfl, ok, k⟩
theorem least_ok' {fam : Fam} {S : Sto} {Q : WK} (ok : OkFam fam) (k : ∀ L, IsLeast fam L → Q (.ref S.length) (S ++ [.lst (L.map tupS)])) : F_least [famW fam] S Q := ⟨fam, rfl, ok, k⟩
theorem cheap_ok {fam : Fam} {w : DL.W} {ps : Prices} {S : Sto} {Q : WK} (ok : OkFam fam) (op : OkPrices ps fam) (hw : PriceAt S w ps) (k : ∀ L, IsLeast fam L → Q (bestW (cheap (cost ps) L)) S) : F_cheap [famW fam, w] S Q := ⟨fam, w, ps, rfl, ok, op, hw, k⟩
theorem lcheap_ok {fam L : Fam} {a i : Nat} {ps : Prices} {S : Sto} {Q : WK} (ok : OkFam fam) (op : OkPrices ps fam) (ha : S[a]? = some (.lst (L.map tupS))) (hi : S[i]? = some (.ft (ps.map priceW))) (hL : IsLeast fam L) (q : Q (bestW (cheap (cost ps) L)) S) : F_lcheap [.ref a, .ref i] S Q := ⟨fam, L, a, i, ps, rfl, ok, op, ha, hi, hL, q⟩
theorem vc_asked : ∀ ws S Q, Closed S → F_asked ws S Q → d_law_asked F_least F_prices F_told F_hitting F_tcheap F_lcheap F_cheap (endsW S.length Q) (startW N_law_asked.length ws) S := by
  rintro ws S Q cl ⟨pl, R, fam, rfl, rfl, g, ok, hfl, q⟩
  show d_law_asked F_least F_prices F_told F_hitting F_tcheap F_lcheap F_cheap _ [some (.ref 0), some (famW fam), none, none, none, none, none, none, none, none] _
  unfold d_law_asked
  walk_at "dl"
  refine least_ok' ok fun L hL => ?_
  have Ll := least_len ok hL
  have Lm := least_mem_len ok hL
  walk_at "dl"
  refine prices_ok (R := R ++ [O.lst (L.map tupS)]) g ok fun pl2 ps g2 op => ?_
  walk_at "dl"
  have hD : ∀ X, (PB pl2 (R ++ .lst (L.map tupS) :: .ft (ps.map priceW) :: X))[R.length + 1]? = some (.lst (L.map tupS)) := fun X => by simp only [List.cons_append, List.append_assoc, List.nil_append, List.getElem?_cons_succ, List.getElem?_cons_zero, get_app, get_app0]
  have hP : ∀ X, (PB pl2 (R ++ .lst (L.map tupS) :: .ft (ps.map priceW) :: X))[R.length + 1 + 1]? = some (.ft (ps.map priceW)) := fun X => get_app (R := R) (k := 1)
  refine hitting_ok ok fun L' hL' => ?_
  obtain rfl := hL.uniq hL'
  refine told_ok (by omega) Lm (.inr ⟨_, rfl, hD []⟩) ?_
  walk_at "dl"
  refine cheap_ok ok op (.inr ⟨_, rfl, hP []⟩) fun L' hL' => ?_
  obtain rfl := hL.uniq hL'
  refine lcheap_ok ok op (hD []) (hP []) hL ?_
  refine tcheap_ok (best_len ok hL) ?_
  walk_at "dl"
  refine .inr ⟨_, _, rfl, hP [], ?_⟩
  refine compT (f := priceW) (h := fun p => priceW (p.1, if (1 : Int) < p.2 then 1 else 2)) trivial (by have := op.len; omega) (fun p hp K k => ?_) ?_
  · walk_at "dl"
    split
    · rename_i h
      rw [if_pos h] at k
      exact k
    · rename_i h
      rw [if_neg h] at k
      exact k
  have eo : ps.map (fun p => priceW (p.1, if (1 : Int) < p.2 then 1 else 2)) = (ps.map fun p => ((p.1, if (1 : Int) < p.2 then 1 else 2) : Str × Int)).map priceW := by
    rw [List.map_map]
    rfl
  have op2 : OkPrices (ps.map fun p => ((p.1, if (1 : Int) < p.2 then 1 else 2) : Str × Int)) fam := by
    have e : (ps.map fun p => ((p.1, if (1 : Int) < p.2 then 1 else 2) : Str × Int)).map (·.1) = ps.map (·.1) := by
      rw [List.map_map]
      rfl
    exact ⟨by rw [e]; exact op.nd, by rw [List.length_map]; exact op.len, fun m hm x hx => by rw [e]; exact op.all m hm x hx⟩
  rw [eo]
  generalize (ps.map fun p => ((p.1, if (1 : Int) < p.2 then 1 else 2) : Str × Int)) = qs at op2
  refine ⟨qs.map priceW, get_app0, ?_⟩
  walk_at "dl"
  have hO : (PB pl2 (R ++ .lst (L.map tupS) :: .ft (ps.map priceW) :: [.lst (qs.map priceW), .ft (qs.map priceW)]))[R.length + 3 + 1]? = some (.ft (qs.map priceW)) := get_app (R := R) (k := 3)
  refine cheap_ok ok op2 (.inr ⟨_, rfl, hO⟩) fun L' hL' => ?_
  obtain rfl := hL.uniq hL'
  refine lcheap_ok ok op2 (hD _) hO hL ?_
  refine tcheap_ok (best_len ok hL) ?_
  walk_at "dl"
  have endT : ∀ (X : Sto), Ends0 (R.length + 1) Q (.bl true) (PB pl2 (R ++ X)) := fun X => endPT X cl rfl (q pl2 g2)
  split
  · exact endT _
  rename_i h40
  split
  · exact endT _
  rename_i hne
  have hL40 : L.length ≤ 40 := by omega
  have hD2 := hD [.lst (qs.map priceW), .ft (qs.map priceW)]
  generalize [O.lst (L.map tupS), O.ft (ps.map priceW), O.lst (qs.map priceW), O.ft (qs.map priceW)] = X0 at hD2
  refine compNG (S := PB pl2 (R ++ X0)) (f := tupS) (h := tupS) (p := lowB fam) (xs := fam) (fun _ => trivial) (by omega) (fun c hc G QT k => ?_) (fun c hc _ G K k => ?_) fun G => ?_
  · have hcl := ok.short hc
    walk_at "dl"
    refine compG (S := PB pl2 (R ++ (X0 ++ G))) (f := tupS) (h := fun d => W.bl (decide ((d.length : Int) < (c.length : Int)) && d.all fun x => decide (x ∈ c))) (xs := fam) (fun _ => trivial) (by omega) (fun d hd G2 K k2 => ?_) fun G2 => ?_
    · have hdl := ok.short hd
      unfold tupS
      walk_at "dl"
      split
      · rename_i hlt
        refine compM (h := fun x => W.bl (decide (x ∈ c))) trivial (by omega) (fun x hx K3 k3 => ?_) ?_
        · walk_at "dl"
          refine ⟨rfl, flW_strs c, ?_⟩
          rw [inW_dec]
          exact k3
        · refine any_ok (b := fun x => decide (x ∈ c)) get_app0 ?_
          have e : (d.map fun x => decide (x ∈ c)).all id = (decide ((d.length : Int) < (c.length : Int)) && d.all fun x => decide (x ∈ c)) := by
            rw [decide_eq_true hlt, List.all_map]
            rfl
          rw [e]
          have z := k2 (G2 ++ [O.lst (d.map fun x => W.bl (decide (x ∈ c)))])
          simp only [List.append_assoc, List.cons_append] at z ⊢
          exact z
      · rename_i hlt
        have z := k2 G2
        rw [decide_eq_false hlt] at z
        simp only [List.append_assoc, List.cons_append] at z ⊢
        exact z
    · refine any_ok (b := fun d : List Str => decide ((d.length : Int) < (c.length : Int)) && d.all fun x => decide (x ∈ c)) get_app0 ?_
      walk_at "dl"
      have e : (!(fam.map fun d : List Str => decide ((d.length : Int) < (c.length : Int)) && d.all fun x => decide (x ∈ c)).any id) = lowB fam c := by
        rw [List.any_map]
        rfl
      rw [e]
      have z := k (G ++ (G2 ++ [O.lst (fam.map fun d => W.bl (decide ((d.length : Int) < (c.length : Int)) && d.all fun x => decide (x ∈ c)))]))
      simp only [List.append_assoc, List.cons_append] at z ⊢
      exact z
  · walk_at "dl"
    have z := k G
    simp only [List.append_assoc, List.cons_append] at z ⊢
    exact z
  · have hD3 : (PB pl2 (R ++ X0) ++ G ++ [O.lst ((fam.filter (lowB fam)).map tupS)])[R.length + 1]? = some (.lst (L.map tupS)) := get_old (get_old hD2)
    rw [e_tupleL hD3]
    refine hitting_ok (least_ok ok hL (by omega)) fun D hDD => ?_
    have hdual : ∀ m ∈ fam.filter (lowB fam), m ≠ [] := fun m hm e => by
      have hmf := (List.mem_filter.mp hm).1
      cases L with
      | nil => exact absurd rfl hne
      | cons c L =>
        have hmin := (hL.mem c).mp (List.mem_cons_self ..)
        obtain ⟨x, hx, _⟩ := hmin.2.1 m hmf
        rw [e] at hx
        exact nomatch hx
    have hfl2 := List.length_filter_le (lowB fam) fam
    refine sortSet_tups (F := fam.filter (lowB fam)) get_app0 (by omega) hdual fun xs nd mem => ?_
    have hx := dual_list (fun m hm => ok.asc m hm) hL nd mem
    obtain rfl := hDD.uniq hx
    have ok2 := least_ok ok hL (by omega)
    refine told_ok (by have := least_len ok2 hDD; omega) (least_mem_len ok2 hDD) (.inr ⟨_, rfl, get_app0⟩) ?_
    have z := endT (X0 ++ (G ++ [O.lst ((fam.filter (lowB fam)).map tupS), O.lst ((xs.mergeSort tupLe).map tupS)]))
    simp only [List.append_assoc, List.cons_append, List.nil_append] at z ⊢
    exact z

end K66

namespace K66
open PySem PySem.Spec PyProof.Rows L2 TL DL KS
local macro_rules | `(tactic| walk_at "dl") => `(tactic| try simp (config := { decide := false }) only [e_seq, e_asg, e_nm, e_op, e_un, e_cb, e_c, e_var, e_ifs, e_tru, e_B, e_drop, e_bm, e_bm0, e_ret, e_retN, e_next, e_break, e_cont, e_nil, e_cons, e_tup, e_lst, e_sl, e_onone, e_osome, e_gsub, e_call, e_callk, e_and, e_or, e_not, e_andv, e_orv, e_notv, e_notU, e_isI, e_isS, e_isT, e_isR, e_isN, e_if, e_par, e_for, e_comp, e_iseq, e_rng1, e_rng3, e_zip, e_dictC, e_sc2, e_iseqF, e_yes, e_gtp, e_gc, e_gn0,
  e_addI, e_addS, e_addT, e_addL, e_i20, e_i2, e_neg, e_cmpI, e_cmpS, e_eqI, e_eqS, e_eqB, e_ixT, e_ixLit, e_ixL, e_ixS, e_set, e_ixAT, e_ixALit, e_ixAL, e_ixAS, e_ixAD, e_setAL, e_setAD, e_dict0, e_inAL, e_inAT, e_inAD, e_inAS, e_listAT, e_listALit, e_listAL, e_listAD, e_max2, e_extend, e_isalpha, e_enum, keyW, sz0, sz1, sz2, sz3, sz4, sz5, sz6, O.dk.injEq, e_slT, e_slLit, e_slS, e_slL, e_lenAS, e_lenAT, e_lenALit, e_lenAL, e_lenAD, e_lenS, e_lenT, e_lenLit, e_lenL, e_i1, e_intI, e_intB, e_strI, e_strS, e_listT, e_listLit, e_listL, e_tupleT, e_tupleL, e_append, e_pop0, e_tyL, e_tyS, e_truL, e_truT, e_truB, e_truI, e_truS, e_truN, e_seqT, e_seqLit, e_seqL, e_in, e_inT, e_isi, kit_ll, kit_ss, kit_tt, kit_ii, kit_ib, tyW_L, tyW_S, tyW_T, tyW_I, tyW_B, cut_to1, cut_to2, cut_from1, wipeW_nil, wipeW_cons, Nat.reduceAdd, eq_self, List.map_cons, List.map_nil,
  atI_0, atI_1, atI_2, atI_3, atI_4, atI_5, atI_end, ixN_0, ixN_1, ixN_11, ixN_last, List.map_append, List.map_cons, List.map_nil, get_app, get_app0, set_app, set_app0, List.cons_append, List.nil_append, List.append_assoc, List.length_append, List.length_cons, List.length_nil, Nat.zero_add, List.length_map, List.length_set,
  List.getElem?_cons_zero, List.getElem?_cons_succ, List.set_cons_zero, List.set_cons_succ, Option.some.injEq, exists_eq_left', exists_eq_left, exists_and_left, W.int.injEq, W.bl.injEq, W.str.injEq, W.tup.injEq, W.ref.injEq, O.lst.injEq, List.cons.injEq, reduceCtorEq, false_and, exists_false, or_false, false_or, true_and, and_true, decide_eq_true_eq, Bool.false_xor, Bool.true_xor, Bool.not_eq_true', decide_eq_false_iff_not, List.isEmpty_cons, List.isEmpty_nil, Bool.not_true, Bool.not_false, if_true, if_false, not_true_eq_false, not_false_eq_true, ne_eq, Bool.false_eq_true, reduceIte])


theorem least_none {fam L : Fam} (h : [] ∈ fam) (hL : IsLeast fam L) : L = [] := by
  cases L with
  | nil => rfl
  | cons c L =>
    obtain ⟨x, hx, _⟩ := ((hL.mem c).mp (List.mem_cons_self ..)).2.1 [] h
    exact nomatch hx
theorem min_nil (c : List Str) : Min [] c ↔ c = [] := by
  constructor
  · rintro ⟨_, _, h⟩
    cases c with
    | nil => rfl
    | cons x c => exact absurd (h [] (fun x hx => nomatch hx) (fun m hm => nomatch hm) x (by simp)) List.not_mem_nil
  · rintro rfl
    exact ⟨List.Pairwise.nil, (fun m hm => nomatch hm), fun d _ _ x hx => nomatch hx⟩
theorem least_empty {L : Fam} (hL : IsLeast [] L) : L = [[]] := by
  have h : IsLeast [] [[]] := ⟨List.nodup_cons.mpr ⟨List.not_mem_nil, List.nodup_nil⟩, fun c => by rw [List.mem_singleton, min_nil], List.pairwise_singleton _ _⟩
  exact hL.uniq h
theorem ok_nil : OkFam [] := ⟨by decide, (fun m hm => nomatch hm), [], List.nodup_nil, by decide, fun m hm => nomatch hm⟩
theorem OkFam.perm {F F' : Fam} (ok : OkFam F) (p : F'.Perm F) : OkFam F' := by
  obtain ⟨U, h1, h2, h3⟩ := ok.U
  exact ⟨by rw [p.length_eq]; exact ok.len, fun m hm => ok.asc m (p.mem_iff.mp hm), U, h1, h2, fun m hm => h3 m (p.mem_iff.mp hm)⟩
/-! ### law -/
def F_law : DSpec := fun ws S Q => ∃ ns : List Int, ws = [.lit (ns.map W.int)] ∧ S = [] ∧ ns.length ≤ 63 ∧ ∀ S', Q (.bl true) S'
theorem vc_law : ∀ ws S Q, Closed S → F_law ws S Q → d_law F_pool F_family F_asked F_mixed F_prices F_told F_hitting F_cheap F_least F_tcheap (endsW S.length Q) (startW N_law.length ws) S := by
  rintro ws S Q cl ⟨ns, rfl, rfl, hl, q⟩
  show d_law F_pool F_family F_asked F_mixed F_prices F_told F_hitting F_cheap F_least F_tcheap _ [some _, none, none, none, none, none] _
  unfold d_law
  have fin : ∀ S', Ends0 0 Q (.bl true) S' := fun S' => Ends0.drop (n := 0) (S0 := []) S' (Nat.le_refl _) cl rfl (q [])
  walk_at "dl"
  refine ⟨ns, rfl, rfl, hl, fun pl g => ?_⟩
  walk_at "dl"
  refine family_ok g fun pl2 F g2 ok hF => ?_
  refine asked_ok g2 ok hF fun pl3 g3 => ?_
  walk_at "dl"
  rw [show (some (39 : Int)) = some ((39 : Nat) : Int) from rfl, cut_to, ← List.map_take]
  have eE : (F.take 39).map tupS ++ [W.tup []] = (F.take 39 ++ [[]]).map tupS := by rw [List.map_append]; rfl
  rw [eE]
  have okE : OkFam (F.take 39 ++ [[]]) := by
    obtain ⟨U, h1, h2, h3⟩ := ok.U
    refine ⟨by rw [List.length_append, List.length_take]; show min 39 F.length + 1 ≤ 50; omega, fun m hm => ?_, U, h1, h2, fun m hm => ?_⟩
    · rcases List.mem_append.mp hm with h | h
      · exact ok.asc m (List.mem_of_mem_take h)
      · rw [List.mem_singleton.mp h]
        exact List.Pairwise.nil
    · rcases List.mem_append.mp hm with h | h
      · exact h3 m (List.mem_of_mem_take h)
      · rw [List.mem_singleton.mp h]
        exact fun x hx => nomatch hx
  have lE : (F.take 39 ++ [[]]).length ≤ 1000 := by have := okE.len; omega
  refine ⟨le_sz (by rw [List.length_map, List.length_take]; omega), ?_⟩
  have hi : [] ∈ F.take 39 ++ [[]] := by simp
  generalize F.take 39 ++ [[]] = E0 at okE lE hi
  generalize hR : [O.lst ((F.take 39).map tupS), O.lst [W.tup []], O.lst (E0.map tupS)] = R0
  have h2 : R0[2]? = some (.lst (E0.map tupS)) := by rw [← hR]; rfl
  refine mixed_fam (R := R0) (F := E0) g3 (.inr ⟨2, rfl, h2⟩) lE fun pl4 E g4 pE => ?_
  have okE2 := okE.perm pE
  have hiE : [] ∈ E := pE.mem_iff.mpr hi
  walk_at "dl"
  refine prices_ok (R := R0 ++ [O.lst (E.map tupS)]) g4 okE2 fun pl5 ps g5 op => ?_
  walk_at "dl"
  refine hitting_ok okE2 fun L hL => ?_
  obtain rfl := least_none hiE hL
  refine told_ok (A := []) (by simp) (fun c h => nomatch h) (.inl rfl) ?_
  walk_at "dl"
  have hP : (PB pl5 (R0 ++ [O.lst (E.map tupS), O.ft (ps.map priceW)]))[R0.length + 1 + 1]? = some (.ft (ps.map priceW)) := get_app (R := R0) (k := 1)
  refine cheap_ok okE2 op (.inr ⟨_, rfl, hP⟩) fun L hL2 => ?_
  obtain rfl := least_none hiE hL2
  show vIs true .non .non _ _
  walk_at "dl"
  refine mixed_fam (R := R0 ++ [O.lst (E.map tupS), O.ft (ps.map priceW)]) (F := F) g5 (.inl rfl) (by omega) fun pl6 F' g6 pF => ?_
  have okF := ok.perm pF
  walk_at "dl"
  refine hitting_ok okF fun L hL3 => ?_
  refine least_ok' ok fun L' hL4 => ?_
  have hL5 := hL4.congr (fam' := F') fun m => pF.mem_iff.symm
  obtain rfl := hL3.uniq hL5
  refine told_ok (by have := least_len ok hL4; omega) (least_mem_len ok hL4) (.inr ⟨_, rfl, get_app0⟩) ?_
  walk_at "dl"
  refine hitting_ok ok_nil fun L6 hL6 => ?_
  obtain rfl := least_empty hL6
  refine told_ok (A := [[]]) (by simp) (fun c h => by rw [List.mem_singleton.mp h]; decide) (.inl rfl) ?_
  walk_at "dl"
  refine cheap_ok (fam := []) (ps := []) ok_nil ⟨List.nodup_nil, by decide, (fun m hm => nomatch hm)⟩ (.inl rfl) fun L7 hL7 => ?_
  obtain rfl := least_empty hL7
  exact tcheap_ok (b := some (0, [])) (fun k c h => by cases h; decide) (fin _)

end K66

namespace K66
open PySem PySem.Spec PyProof.Rows L2 TL DL
section
variable {P : Program} {w : World} {K : Fg} {mg : Str → Option Value} {base : Heap}
theorem ok_all (T : Txt mg) (t_law_pool : TFun K mg "_law_pool" s_law_pool ["script", "many"]) (t_law_pick : TFun K mg "_law_pick" s_law_pick ["pool", "many"]) (t_law_mixed : TFun K mg "_law_mixed" s_law_mixed ["pool", "things"]) (t_law_names : TFun K mg "_law_names" s_law_names ["pool", "many"]) (t_law_free : TFun K mg "_law_free" s_law_free ["pool", "names", "many"]) (t_law_forty : TFun K mg "_law_forty" s_law_forty ["pool", "names"]) (t_law_shaped : TFun K mg "_law_shaped" s_law_shaped ["pool", "names", "way"]) (t_law_family : TFun K mg "_law_family" s_law_family ["pool"]) (t_law_hits_all : TFun K mg "_law_hits_all" s_law_hits_all ["chosen", "family"]) (t_law_least_sets : TFun K mg "_law_least_sets" s_law_least_sets ["family"]) (t_law_prices : TFun K mg "_law_prices" s_law_prices ["pool", "family"]) (t_law_told_sets : TFun K mg "_law_told_sets" s_law_told_sets ["told", "due"]) (t_hitting_sets : TFun K mg "hitting_sets" s_hitting_sets ["family"]) (t_law_told_cheapest : TFun K mg "_law_told_cheapest" s_law_told_cheapest ["told", "due"]) (t_law_cheapest : TFun K mg "_law_cheapest" s_law_cheapest ["sets", "prices"]) (t_cheapest_hitting : TFun K mg "cheapest_hitting" s_cheapest_hitting ["family", "prices"]) (t_law_asked : TFun K mg "_law_asked" s_law_asked ["pool", "family"]) {fl : Addr} {fdl : FuncData} (Fu : Fun K "law" "law" s_law fl fdl) : FnOk P w K mg base CX0 6 fl fdl ["script"] (spOf K F_law) := by
  have D_law_pool : TDef P w K mg base 1 "_law_pool" s_law_pool ["script", "many"] F_pool := TFun.ok t_law_pool sc_law_pool (der_law_pool T) (fun _ _ _ ⟨_, e, _⟩ => by rw [e]; rfl) vc_pool
  have D_law_pick : TDef P w K mg base 1 "_law_pick" s_law_pick ["pool", "many"] F_pick := TFun.ok t_law_pick sc_law_pick (der_law_pick T) (fun _ _ _ ⟨_, _, _, e, _⟩ => by rw [e]; rfl) vc_pick
  have D_law_mixed : TDef P w K mg base 2 "_law_mixed" s_law_mixed ["pool", "things"] F_mixed := TFun.ok t_law_mixed sc_law_mixed (der_law_mixed T D_law_pick) (fun _ _ _ ⟨_, _, _, _, e, _⟩ => by rw [e]; rfl) vc_mixed
  have D_law_names : TDef P w K mg base 2 "_law_names" s_law_names ["pool", "many"] F_names := TFun.ok t_law_names sc_law_names (der_law_names T D_law_pick) (fun _ _ _ ⟨_, _, _, e, _⟩ => by rw [e]; rfl) vc_names
  have D_law_free : TDef P w K mg base 3 "_law_free" s_law_free ["pool", "names", "many"] F_free := TFun.ok t_law_free sc_law_free (der_law_free T D_law_pick D_law_mixed) (fun _ _ _ ⟨_, _, _, _, _, e, _⟩ => by rw [e]; rfl) vc_free
  have D_law_forty : TDef P w K mg base 4 "_law_forty" s_law_forty ["pool", "names"] F_forty := TFun.ok t_law_forty sc_law_forty (der_law_forty T D_law_free D_law_mixed D_law_pick) (fun _ _ _ ⟨_, _, _, _, e, _⟩ => by rw [e]; rfl) vc_forty
  have D_law_shaped : TDef P w K mg base 3 "_law_shaped" s_law_shaped ["pool", "names", "way"] F_shaped := TFun.ok t_law_shaped sc_law_shaped (der_law_shaped T D_law_mixed D_law_pick) (fun _ _ _ ⟨_, _, _, _, _, e, _⟩ => by rw [e]; rfl) vc_shaped
  have D_law_family : TDef P w K mg base 5 "_law_family" s_law_family ["pool"] F_family := TFun.ok t_law_family sc_law_family (der_law_family T D_law_pick D_law_mixed D_law_names D_law_forty D_law_free D_law_shaped) (fun _ _ _ ⟨_, _, e, _⟩ => by rw [e]; rfl) vc_family
  have D_law_hits_all : TDef P w K mg base 1 "_law_hits_all" s_law_hits_all ["chosen", "family"] F_hits := TFun.ok t_law_hits_all sc_law_hits_all (der_law_hits_all T) (fun _ _ _ ⟨_, _, e, _⟩ => by rw [e]; rfl) vc_hits
  have D_law_least_sets : TDef P w K mg base 2 "_law_least_sets" s_law_least_sets ["family"] F_least := TFun.ok t_law_least_sets sc_law_least_sets (der_law_least_sets T D_law_hits_all) (fun _ _ _ ⟨_, e, _⟩ => by rw [e]; rfl) vc_least
  have D_law_prices : TDef P w K mg base 3 "_law_prices" s_law_prices ["pool", "family"] F_prices := TFun.ok t_law_prices sc_law_prices (der_law_prices T D_law_pick D_law_mixed) (fun _ _ _ ⟨_, _, _, e, _⟩ => by rw [e]; rfl) vc_prices
  have D_law_told_sets : TDef P w K mg base 1 "_law_told_sets" s_law_told_sets ["told", "due"] F_told := TFun.ok t_law_told_sets sc_law_told_sets (der_law_told_sets T) (fun _ _ _ ⟨_, _, e, _⟩ => by rw [e]; rfl) vc_told
  have D_hitting_sets : TDef P w K mg base 1 "hitting_sets" s_hitting_sets ["family"] F_hitting := TFun.ok t_hitting_sets sc_hitting_sets (der_hitting_sets T) (fun _ _ _ ⟨_, e, _⟩ => by rw [e]; rfl) vc_hitting
  have D_law_told_cheapest : TDef P w K mg base 2 "_law_told_cheapest" s_law_told_cheapest ["told", "due"] F_tcheap := TFun.ok t_law_told_cheapest sc_law_told_cheapest (der_law_told_cheapest T D_law_told_sets) (fun _ _ _ ⟨_, e, _⟩ => by rw [e]; rfl) vc_tcheap
  have D_law_cheapest : TDef P w K mg base 1 "_law_cheapest" s_law_cheapest ["sets", "prices"] F_lcheap := TFun.ok t_law_cheapest sc_law_cheapest (der_law_cheapest T) (fun _ _ _ ⟨_, _, _, _, _, e, _⟩ => by rw [e]; rfl) vc_lcheap
  have D_cheapest_hitting : TDef P w K mg base 2 "cheapest_hitting" s_cheapest_hitting ["family", "prices"] F_cheap := TFun.ok t_cheapest_hitting sc_cheapest_hitting (der_cheapest_hitting T D_hitting_sets) (fun _ _ _ ⟨_, _, _, e, _⟩ => by rw [e]; rfl) vc_cheap
  have D_law_asked : TDef P w K mg base 4 "_law_asked" s_law_asked ["pool", "family"] F_asked := TFun.ok t_law_asked sc_law_asked (der_law_asked T D_law_least_sets D_law_prices D_law_told_sets D_hitting_sets D_law_told_cheapest D_law_cheapest D_cheapest_hitting) (fun _ _ _ ⟨_, _, _, e, _⟩ => by rw [e]; rfl) vc_asked
  exact fn_d Fu sc_law (fun _ _ _ ⟨_, e, _⟩ => by rw [e]; rfl) fun cdv A outer s H E hr => ⟨_, der_law T D_law_pool D_law_family D_law_asked D_law_mixed D_law_prices D_law_told_sets D_hitting_sets D_cheapest_hitting D_law_least_sets D_law_told_cheapest fl cdv A outer s H E hr, vc_law⟩
end
theorem tfun_mk {K : Fg} {w : World} {h : Heap} {mg : Str → Option Value} {x : Str} {st : Stmt} {ps : List Str} {f : Addr} {oc : Value} {od an : Option Addr} {osl : Array (Option Value)} {kV doc pm cdv ct : Value} (X : K.In h) (G : h.Ns mainGlobals mg)
    (a : PySem.W.nsIn K mainGlobals x = some (some (.ref f))) (l : K.lookup f = some ⟨oc, od, .func (PySem.W.fnOf x x (defArgs st) (defBody st) (defScope st) .none kV doc pm an cdv ct), osl⟩) (c : PySem.W.codeIn K cdv x = true) (k : PySem.W.keepIn K (.ref f) = true)
    (b : ∀ (kV doc pm : Value) (an : Option Addr) (cdv ct : Value) (us : List Value), us.length = ps.length → bindArgs (PySem.W.fnOf x x (defArgs st) (defBody st) (defScope st) .none kV doc pm an cdv ct) ⟨us, []⟩ = pure (ps.zip us)) : TFun K mg x st ps :=
  ⟨f, _, fun_mk l c k, PySem.W.mg_of X G a, (fun_mk l c k).binds b⟩
theorem all_mk {l : PySem.W.OpenLaw} {w : World} {K : Fg} {h : Heap} {mg : Str → Option Value} {fa f0 f1 f2 f3 f4 f5 f6 f7 f8 f9 f10 f11 f12 f13 f14 f15 f16 f17 : Addr} (X : K.In h) (G : h.Ns mainGlobals mg) (hfa : mg "law" = some (.ref fa))
    {od0 an0 : Option Addr} {sl0 : Array (Option Value)} {oc0 kV0 dc0 pm0 cd0 ct0 : Value}
    {od1 an1 : Option Addr} {sl1 : Array (Option Value)} {oc1 kV1 dc1 pm1 cd1 ct1 : Value}
    {od2 an2 : Option Addr} {sl2 : Array (Option Value)} {oc2 kV2 dc2 pm2 cd2 ct2 : Value}
    {od3 an3 : Option Addr} {sl3 : Array (Option Value)} {oc3 kV3 dc3 pm3 cd3 ct3 : Value}
    {od4 an4 : Option Addr} {sl4 : Array (Option Value)} {oc4 kV4 dc4 pm4 cd4 ct4 : Value}
    {od5 an5 : Option Addr} {sl5 : Array (Option Value)} {oc5 kV5 dc5 pm5 cd5 ct5 : Value}
    {od6 an6 : Option Addr} {sl6 : Array (Option Value)} {oc6 kV6 dc6 pm6 cd6 ct6 : Value}
    {od7 an7 : Option Addr} {sl7 : Array (Option Value)} {oc7 kV7 dc7 pm7 cd7 ct7 : Value}
    {od8 an8 : Option Addr} {sl8 : Array (Option Value)} {oc8 kV8 dc8 pm8 cd8 ct8 : Value}
    {od9 an9 : Option Addr} {sl9 : Array (Option Value)} {oc9 kV9 dc9 pm9 cd9 ct9 : Value}
    {od10 an10 : Option Addr} {sl10 : Array (Option Value)} {oc10 kV10 dc10 pm10 cd10 ct10 : Value}
    {od11 an11 : Option Addr} {sl11 : Array (Option Value)} {oc11 kV11 dc11 pm11 cd11 ct11 : Value}
    {od12 an12 : Option Addr} {sl12 : Array (Option Value)} {oc12 kV12 dc12 pm12 cd12 ct12 : Value}
    {od13 an13 : Option Addr} {sl13 : Array (Option Value)} {oc13 kV13 dc13 pm13 cd13 ct13 : Value}
    {od14 an14 : Option Addr} {sl14 : Array (Option Value)} {oc14 kV14 dc14 pm14 cd14 ct14 : Value}
    {od15 an15 : Option Addr} {sl15 : Array (Option Value)} {oc15 kV15 dc15 pm15 cd15 ct15 : Value}
    {od16 an16 : Option Addr} {sl16 : Array (Option Value)} {oc16 kV16 dc16 pm16 cd16 ct16 : Value}
    {od17 an17 : Option Addr} {sl17 : Array (Option Value)} {oc17 kV17 dc17 pm17 cd17 ct17 : Value}
    (a0 : PySem.W.nsIn K mainGlobals "_law_pool" = some (some (.ref f0))) (l0 : K.lookup f0 = some ⟨oc0, od0, .func (PySem.W.fnOf "_law_pool" "_law_pool" (defArgs s_law_pool) (defBody s_law_pool) (defScope s_law_pool) .none kV0 dc0 pm0 an0 cd0 ct0), sl0⟩) (c0 : PySem.W.codeIn K cd0 "_law_pool" = true) (k0 : PySem.W.keepIn K (.ref f0) = true)
    (a1 : PySem.W.nsIn K mainGlobals "_law_pick" = some (some (.ref f1))) (l1 : K.lookup f1 = some ⟨oc1, od1, .func (PySem.W.fnOf "_law_pick" "_law_pick" (defArgs s_law_pick) (defBody s_law_pick) (defScope s_law_pick) .none kV1 dc1 pm1 an1 cd1 ct1), sl1⟩) (c1 : PySem.W.codeIn K cd1 "_law_pick" = true) (k1 : PySem.W.keepIn K (.ref f1) = true)
    (a2 : PySem.W.nsIn K mainGlobals "_law_mixed" = some (some (.ref f2))) (l2 : K.lookup f2 = some ⟨oc2, od2, .func (PySem.W.fnOf "_law_mixed" "_law_mixed" (defArgs s_law_mixed) (defBody s_law_mixed) (defScope s_law_mixed) .none kV2 dc2 pm2 an2 cd2 ct2), sl2⟩) (c2 : PySem.W.codeIn K cd2 "_law_mixed" = true) (k2 : PySem.W.keepIn K (.ref f2) = true)
    (a3 : PySem.W.nsIn K mainGlobals "_law_names" = some (some (.ref f3))) (l3 : K.lookup f3 = some ⟨oc3, od3, .func (PySem.W.fnOf "_law_names" "_law_names" (defArgs s_law_names) (defBody s_law_names) (defScope s_law_names) .none kV3 dc3 pm3 an3 cd3 ct3), sl3⟩) (c3 : PySem.W.codeIn K cd3 "_law_names" = true) (k3 : PySem.W.keepIn K (.ref f3) = true)
    (a4 : PySem.W.nsIn K mainGlobals "_law_free" = some (some (.ref f4))) (l4 : K.lookup f4 = some ⟨oc4, od4, .func (PySem.W.fnOf "_law_free" "_law_free" (defArgs s_law_free) (defBody s_law_free) (defScope s_law_free) .none kV4 dc4 pm4 an4 cd4 ct4), sl4⟩) (c4 : PySem.W.codeIn K cd4 "_law_free" = true) (k4 : PySem.W.keepIn K (.ref f4) = true)
    (a5 : PySem.W.nsIn K mainGlobals "_law_forty" = some (some (.ref f5))) (l5 : K.lookup f5 = some ⟨oc5, od5, .func (PySem.W.fnOf "_law_forty" "_law_forty" (defArgs s_law_forty) (defBody s_law_forty) (defScope s_law_forty) .none kV5 dc5 pm5 an5 cd5 ct5), sl5⟩) (c5 : PySem.W.codeIn K cd5 "_law_forty" = true) (k5 : PySem.W.keepIn K (.ref f5) = true)
    (a6 : PySem.W.nsIn K mainGlobals "_law_shaped" = some (some (.ref f6))) (l6 : K.lookup f6 = some ⟨oc6, od6, .func (PySem.W.fnOf "_law_shaped" "_law_shaped" (defArgs s_law_shaped) (defBody s_law_shaped) (defScope s_law_shaped) .none kV6 dc6 pm6 an6 cd6 ct6), sl6⟩) (c6 : PySem.W.codeIn K cd6 "_law_shaped" = true) (k6 : PySem.W.keepIn K (.ref f6) = true)
    (a7 : PySem.W.nsIn K mainGlobals "_law_family" = some (some (.ref f7))) (l7 : K.lookup f7 = some ⟨oc7, od7, .func (PySem.W.fnOf "_law_family" "_law_family" (defArgs s_law_family) (defBody s_law_family) (defScope s_law_family) .none kV7 dc7 pm7 an7 cd7 ct7), sl7⟩) (c7 : PySem.W.codeIn K cd7 "_law_family" = true) (k7 : PySem.W.keepIn K (.ref f7) = true)
    (a8 : PySem.W.nsIn K mainGlobals "_law_hits_all" = some (some (.ref f8))) (l8 : K.lookup f8 = some ⟨oc8, od8, .func (PySem.W.fnOf "_law_hits_all" "_law_hits_all" (defArgs s_law_hits_all) (defBody s_law_hits_all) (defScope s_law_hits_all) .none kV8 dc8 pm8 an8 cd8 ct8), sl8⟩) (c8 : PySem.W.codeIn K cd8 "_law_hits_all" = true) (k8 : PySem.W.keepIn K (.ref f8) = true)
    (a9 : PySem.W.nsIn K mainGlobals "_law_least_sets" = some (some (.ref f9))) (l9 : K.lookup f9 = some ⟨oc9, od9, .func (PySem.W.fnOf "_law_least_sets" "_law_least_sets" (defArgs s_law_least_sets) (defBody s_law_least_sets) (defScope s_law_least_sets) .none kV9 dc9 pm9 an9 cd9 ct9), sl9⟩) (c9 : PySem.W.codeIn K cd9 "_law_least_sets" = true) (k9 : PySem.W.keepIn K (.ref f9) = true)
    (a10 : PySem.W.nsIn K mainGlobals "_law_prices" = some (some (.ref f10))) (l10 : K.lookup f10 = some ⟨oc10, od10, .func (PySem.W.fnOf "_law_prices" "_law_prices" (defArgs s_law_prices) (defBody s_law_prices) (defScope s_law_prices) .none kV10 dc10 pm10 an10 cd10 ct10), sl10⟩) (c10 : PySem.W.codeIn K cd10 "_law_prices" = true) (k10 : PySem.W.keepIn K (.ref f10) = true)
    (a11 : PySem.W.nsIn K mainGlobals "_law_told_sets" = some (some (.ref f11))) (l11 : K.lookup f11 = some ⟨oc11, od11, .func (PySem.W.fnOf "_law_told_sets" "_law_told_sets" (defArgs s_law_told_sets) (defBody s_law_told_sets) (defScope s_law_told_sets) .none kV11 dc11 pm11 an11 cd11 ct11), sl11⟩) (c11 : PySem.W.codeIn K cd11 "_law_told_sets" = true) (k11 : PySem.W.keepIn K (.ref f11) = true)
    (a12 : PySem.W.nsIn K mainGlobals "hitting_sets" = some (some (.ref f12))) (l12 : K.lookup f12 = some ⟨oc12, od12, .func (PySem.W.fnOf "hitting_sets" "hitting_sets" (defArgs s_hitting_sets) (defBody s_hitting_sets) (defScope s_hitting_sets) .none kV12 dc12 pm12 an12 cd12 ct12), sl12⟩) (c12 : PySem.W.codeIn K cd12 "hitting_sets" = true) (k12 : PySem.W.keepIn K (.ref f12) = true)
    (a13 : PySem.W.nsIn K mainGlobals "_law_told_cheapest" = some (some (.ref f13))) (l13 : K.lookup f13 = some ⟨oc13, od13, .func (PySem.W.fnOf "_law_told_cheapest" "_law_told_cheapest" (defArgs s_law_told_cheapest) (defBody s_law_told_cheapest) (defScope s_law_told_cheapest) .none kV13 dc13 pm13 an13 cd13 ct13), sl13⟩) (c13 : PySem.W.codeIn K cd13 "_law_told_cheapest" = true) (k13 : PySem.W.keepIn K (.ref f13) = true)
    (a14 : PySem.W.nsIn K mainGlobals "_law_cheapest" = some (some (.ref f14))) (l14 : K.lookup f14 = some ⟨oc14, od14, .func (PySem.W.fnOf "_law_cheapest" "_law_cheapest" (defArgs s_law_cheapest) (defBody s_law_cheapest) (defScope s_law_cheapest) .none kV14 dc14 pm14 an14 cd14 ct14), sl14⟩) (c14 : PySem.W.codeIn K cd14 "_law_cheapest" = true) (k14 : PySem.W.keepIn K (.ref f14) = true)
    (a15 : PySem.W.nsIn K mainGlobals "cheapest_hitting" = some (some (.ref f15))) (l15 : K.lookup f15 = some ⟨oc15, od15, .func (PySem.W.fnOf "cheapest_hitting" "cheapest_hitting" (defArgs s_cheapest_hitting) (defBody s_cheapest_hitting) (defScope s_cheapest_hitting) .none kV15 dc15 pm15 an15 cd15 ct15), sl15⟩) (c15 : PySem.W.codeIn K cd15 "cheapest_hitting" = true) (k15 : PySem.W.keepIn K (.ref f15) = true)
    (a16 : PySem.W.nsIn K mainGlobals "_law_asked" = some (some (.ref f16))) (l16 : K.lookup f16 = some ⟨oc16, od16, .func (PySem.W.fnOf "_law_asked" "_law_asked" (defArgs s_law_asked) (defBody s_law_asked) (defScope s_law_asked) .none kV16 dc16 pm16 an16 cd16 ct16), sl16⟩) (c16 : PySem.W.codeIn K cd16 "_law_asked" = true) (k16 : PySem.W.keepIn K (.ref f16) = true)
    (a17 : PySem.W.nsIn K mainGlobals "law" = some (some (.ref f17))) (l17 : K.lookup f17 = some ⟨oc17, od17, .func (PySem.W.fnOf "law" "law" (defArgs s_law) (defBody s_law) (defScope s_law) .none kV17 dc17 pm17 an17 cd17 ct17), sl17⟩) (c17 : PySem.W.codeIn K cd17 "law" = true) (k17 : PySem.W.keepIn K (.ref f17) = true)
    (z0 : PySem.W.nsIn K mainGlobals "sorted" = some none) (z1 : PySem.W.nsIn K mainGlobals "enumerate" = some none) (z2 : PySem.W.nsIn K mainGlobals "sum" = some none) (z3 : PySem.W.nsIn K mainGlobals "range" = some none) (z4 : PySem.W.nsIn K mainGlobals "len" = some none) (z5 : PySem.W.nsIn K mainGlobals "all" = some none) (z6 : PySem.W.nsIn K mainGlobals "any" = some none) (z7 : PySem.W.nsIn K mainGlobals "tuple" = some none) (z8 : PySem.W.nsIn K mainGlobals "abs" = some none) (z9 : PySem.W.nsIn K mainGlobals "int" = some none) (z10 : PySem.W.nsIn K mainGlobals "str" = some none) (z11 : PySem.W.nsIn K mainGlobals "list" = some none) (z12 : PySem.W.nsIn K mainGlobals "dict" = some none) (z13 : PySem.W.nsIn K mainGlobals "set" = some none) (z14 : PySem.W.nsIn K mainGlobals "isinstance" = some none) (z15 : PySem.W.nsIn K mainGlobals "zip" = some none) (z16 : PySem.W.nsIn K mainGlobals "bool" = some none)
    : ∃ fd : FuncData, (∀ (s : Shared) (v : Value), BindsTo s fd ⟨[v], []⟩ [("script", v)]) ∧ ∀ base : Heap, K.In base → base.Ns mainGlobals mg → FnOk l.prog w K mg base CX0 6 fa fd ["script"] (spOf K F_law) := by
  have e := hfa.symm.trans (PySem.W.mg_of X G a17)
  cases e
  have t0 : TFun K mg "_law_pool" s_law_pool ["script", "many"] := tfun_mk (w := w) X G a0 l0 c0 k0 fun _ _ _ _ _ _ us hl => match us, hl with | [_, _], _ => rfl
  have t1 : TFun K mg "_law_pick" s_law_pick ["pool", "many"] := tfun_mk (w := w) X G a1 l1 c1 k1 fun _ _ _ _ _ _ us hl => match us, hl with | [_, _], _ => rfl
  have t2 : TFun K mg "_law_mixed" s_law_mixed ["pool", "things"] := tfun_mk (w := w) X G a2 l2 c2 k2 fun _ _ _ _ _ _ us hl => match us, hl with | [_, _], _ => rfl
  have t3 : TFun K mg "_law_names" s_law_names ["pool", "many"] := tfun_mk (w := w) X G a3 l3 c3 k3 fun _ _ _ _ _ _ us hl => match us, hl with | [_, _], _ => rfl
  have t4 : TFun K mg "_law_free" s_law_free ["pool", "names", "many"] := tfun_mk (w := w) X G a4 l4 c4 k4 fun _ _ _ _ _ _ us hl => match us, hl with | [_, _, _], _ => rfl
  have t5 : TFun K mg "_law_forty" s_law_forty ["pool", "names"] := tfun_mk (w := w) X G a5 l5 c5 k5 fun _ _ _ _ _ _ us hl => match us, hl with | [_, _], _ => rfl
  have t6 : TFun K mg "_law_shaped" s_law_shaped ["pool", "names", "way"] := tfun_mk (w := w) X G a6 l6 c6 k6 fun _ _ _ _ _ _ us hl => match us, hl with | [_, _, _], _ => rfl
  have t7 : TFun K mg "_law_family" s_law_family ["pool"] := tfun_mk (w := w) X G a7 l7 c7 k7 fun _ _ _ _ _ _ us hl => match us, hl with | [_], _ => rfl
  have t8 : TFun K mg "_law_hits_all" s_law_hits_all ["chosen", "family"] := tfun_mk (w := w) X G a8 l8 c8 k8 fun _ _ _ _ _ _ us hl => match us, hl with | [_, _], _ => rfl
  have t9 : TFun K mg "_law_least_sets" s_law_least_sets ["family"] := tfun_mk (w := w) X G a9 l9 c9 k9 fun _ _ _ _ _ _ us hl => match us, hl with | [_], _ => rfl
  have t10 : TFun K mg "_law_prices" s_law_prices ["pool", "family"] := tfun_mk (w := w) X G a10 l10 c10 k10 fun _ _ _ _ _ _ us hl => match us, hl with | [_, _], _ => rfl
  have t11 : TFun K mg "_law_told_sets" s_law_told_sets ["told", "due"] := tfun_mk (w := w) X G a11 l11 c11 k11 fun _ _ _ _ _ _ us hl => match us, hl with | [_, _], _ => rfl
  have t12 : TFun K mg "hitting_sets" s_hitting_sets ["family"] := tfun_mk (w := w) X G a12 l12 c12 k12 fun _ _ _ _ _ _ us hl => match us, hl with | [_], _ => rfl
  have t13 : TFun K mg "_law_told_cheapest" s_law_told_cheapest ["told", "due"] := tfun_mk (w := w) X G a13 l13 c13 k13 fun _ _ _ _ _ _ us hl => match us, hl with | [_, _], _ => rfl
  have t14 : TFun K mg "_law_cheapest" s_law_cheapest ["sets", "prices"] := tfun_mk (w := w) X G a14 l14 c14 k14 fun _ _ _ _ _ _ us hl => match us, hl with | [_, _], _ => rfl
  have t15 : TFun K mg "cheapest_hitting" s_cheapest_hitting ["family", "prices"] := tfun_mk (w := w) X G a15 l15 c15 k15 fun _ _ _ _ _ _ us hl => match us, hl with | [_, _], _ => rfl
  have t16 : TFun K mg "_law_asked" s_law_asked ["pool", "family"] := tfun_mk (w := w) X G a16 l16 c16 k16 fun _ _ _ _ _ _ us hl => match us, hl with | [_, _], _ => rfl
  have T : Txt mg := ⟨PySem.W.mg_none_of X G z0, PySem.W.mg_none_of X G z1, PySem.W.mg_none_of X G z2, PySem.W.mg_none_of X G z3, PySem.W.mg_none_of X G z4, PySem.W.mg_none_of X G z5, PySem.W.mg_none_of X G z6, PySem.W.mg_none_of X G z7, PySem.W.mg_none_of X G z8, PySem.W.mg_none_of X G z9, PySem.W.mg_none_of X G z10, PySem.W.mg_none_of X G z11, PySem.W.mg_none_of X G z12, PySem.W.mg_none_of X G z13, PySem.W.mg_none_of X G z14, PySem.W.mg_none_of X G z15, PySem.W.mg_none_of X G z16⟩
  refine ⟨PySem.W.fnOf "law" "law" (defArgs s_law) (defBody s_law) (defScope s_law) .none kV17 dc17 pm17 an17 cd17 ct17, fun s v => .of_eq rfl, fun base _ _ => ?_⟩
  exact ok_all (P := l.prog) (w := w) (base := base) T t0 t1 t2 t3 t4 t5 t6 t7 t8 t9 t10 t11 t12 t13 t14 t15 t16 (fun_mk l17 c17 k17)
theorem repL_of_ints {K : Fg} {H : Hp} {r : List Addr} : ∀ ns : List Int, RepL K r H (ns.map V.int) (ns.map W.int)
  | [] => .nil
  | x :: ns => .cons (.int x) (repL_of_ints ns)
theorem hsp_mk {K : Fg} {H : Hp} {a : Addr} {ns : List Int} (hl : ns.length ≤ 63) (ho : Only H) (hs : SqL K H a (ns.map V.int)) : spOf K F_law [.ref a] H (fun v _ => v = .bl true) fun _ _ _ => False := by
  refine ⟨[], [], [.lit (ns.map W.int)], fun w _ => w = .bl true, ⟨rfl, List.nodup_nil, fun i a o h => by simp at h⟩, .cons (.lit ⟨hs, ?_⟩ ?_) .nil, ⟨ns, rfl, rfl, hl, fun _ => rfl⟩, fun _ _ _ v w _ _ r e => ?_⟩
  · rcases hs with h | ⟨o, its, n, h1, h2, h3, h4, h5, h6⟩
    · rcases h with h | ⟨o, h⟩
      · rcases ho a with h2 | ⟨o, xs, h2⟩
        · rw [h2] at h; cases h
        · rw [h2] at h; cases h
      · exact .inl ⟨o, h⟩
    · exact .inr fun H' => .inr ⟨o, its, n, h1, h2, h3, h4, h5, h6⟩
  · exact repL_of_ints ns
  · subst e
    cases r
    rfl
end K66
open PySem PySem.W PyProof.Rows
set_option maxHeartbeats 0 in
theorem PySem.Challenge.cw_throughdoors_k66_hitting_sets_holds : PySem.Challenge.rw_throughdoors_k66_hitting_sets.Holds := by
  w_on; o_law; k_head; (case hw => w_witness2)
  k_fill
  refine L2.walk_of (l := PySem.Challenge.rw_throughdoors_k66_hitting_sets) (n := 63) (k := 6) (x := "script") (CX := fun _ => L2.CX0) (sp := fun w => DL.spOf _ K66.F_law) rfl (by decide) rfl ⟨rfl, by decide, by decide⟩ (fun w h Y => PySem.W.kIn_of Y) ?F (fun _ _ _ _ hl ho hs => K66.hsp_mk hl ho hs) (fun _ _ _ _ _ h => h)
  case F =>
    intro w mg fa h KX G hmg
    refine' K66.all_mk KX G hmg ?a0 ?l0 ?c0 ?k0 ?a1 ?l1 ?c1 ?k1 ?a2 ?l2 ?c2 ?k2 ?a3 ?l3 ?c3 ?k3 ?a4 ?l4 ?c4 ?k4 ?a5 ?l5 ?c5 ?k5 ?a6 ?l6 ?c6 ?k6 ?a7 ?l7 ?c7 ?k7 ?a8 ?l8 ?c8 ?k8 ?a9 ?l9 ?c9 ?k9 ?a10 ?l10 ?c10 ?k10 ?a11 ?l11 ?c11 ?k11 ?a12 ?l12 ?c12 ?k12 ?a13 ?l13 ?c13 ?k13 ?a14 ?l14 ?c14 ?k14 ?a15 ?l15 ?c15 ?k15 ?a16 ?l16 ?c16 ?k16 ?a17 ?l17 ?c17 ?k17 ?z0 ?z1 ?z2 ?z3 ?z4 ?z5 ?z6 ?z7 ?z8 ?z9 ?z10 ?z11 ?z12 ?z13 ?z14 ?z15 ?z16
    (case a0 => k_is)
    (case l0 => k_is)
    (case c0 => k_is)
    (case k0 => k_is)
    (case a1 => k_is)
    (case l1 => k_is)
    (case c1 => k_is)
    (case k1 => k_is)
    (case a2 => k_is)
    (case l2 => k_is)
    (case c2 => k_is)
    (case k2 => k_is)
    (case a3 => k_is)
    (case l3 => k_is)
    (case c3 => k_is)
    (case k3 => k_is)
    (case a4 => k_is)
    (case l4 => k_is)
    (case c4 => k_is)
    (case k4 => k_is)
    (case a5 => k_is)
    (case l5 => k_is)
    (case c5 => k_is)
    (case k5 => k_is)
    (case a6 => k_is)
    (case l6 => k_is)
    (case c6 => k_is)
    (case k6 => k_is)
    (case a7 => k_is)
    (case l7 => k_is)
    (case c7 => k_is)
    (case k7 => k_is)
    (case a8 => k_is)
    (case l8 => k_is)
    (case c8 => k_is)
    (case k8 => k_is)
    (case a9 => k_is)
    (case l9 => k_is)
    (case c9 => k_is)
    (case k9 => k_is)
    (case a10 => k_is)
    (case l10 => k_is)
    (case c10 => k_is)
    (case k10 => k_is)
    (case a11 => k_is)
    (case l11 => k_is)
    (case c11 => k_is)
    (case k11 => k_is)
    (case a12 => k_is)
    (case l12 => k_is)
    (case c12 => k_is)
    (case k12 => k_is)
    (case a13 => k_is)
    (case l13 => k_is)
    (case c13 => k_is)
    (case k13 => k_is)
    (case a14 => k_is)
    (case l14 => k_is)
    (case c14 => k_is)
    (case k14 => k_is)
    (case a15 => k_is)
    (case l15 => k_is)
    (case c15 => k_is)
    (case k15 => k_is)
    (case a16 => k_is)
    (case l16 => k_is)
    (case c16 => k_is)
    (case k16 => k_is)
    (case a17 => k_is)
    (case l17 => k_is)
    (case c17 => k_is)
    (case k17 => k_is)
    (case z0 => k_is)
    (case z1 => k_is)
    (case z2 => k_is)
    (case z3 => k_is)
    (case z4 => k_is)
    (case z5 => k_is)
    (case z6 => k_is)
    (case z7 => k_is)
    (case z8 => k_is)
    (case z9 => k_is)
    (case z10 => k_is)
    (case z11 => k_is)
    (case z12 => k_is)
    (case z13 => k_is)
    (case z14 => k_is)
    (case z15 => k_is)
    (case z16 => k_is)
