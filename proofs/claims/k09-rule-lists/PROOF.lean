import PyProof.Rows.All
import Wide.All
import OpenK.AllK
import Wide.FinOn
import HandS.ForMost
import HandS.IsInst
import HandS.RaiseMore
import HandS.Wide
import HandS.TupAny
import KE.SortData
import OpenK.KMore
import HandS.Conv
import HandS.Small
import HandS.Zip
import KE.GoesEnum
import HandS.Text
import HandS.More
import HandS.Deep
import HandS.Flow
import PySem.Challenge.RW_throughdoors_k09_rule_lists
set_option Elab.async false
set_option linter.all false
set_option maxRecDepth 100000
set_option maxHeartbeats 4000000
/-! DLa: values as trees (tuples by value), a store of mutable objects by number, what stands for what. -/
namespace DL
open PySem PySem.Spec PyProof.Rows L2

/-- a value: tuples by value; lists that are only read, by value (lit); mutable objects by their number in the store -/
inductive W where
  | non | bl (b : Bool) | int (i : Int) | str (x : Str) | tup (ws : List W) | lit (ws : List W) | ref (i : Nat) | raw (v : V)

/-- an object of the store -/
inductive O where
  | lst (ws : List W)
  | dk (kvs : List (Key × W))

abbrev Sto := List O
abbrev Slots := List (Option W)
abbrev Fg := PySem.W.Frag

/-- a list that nobody writes: of the module, or locked -/
def LitAt (K : Fg) (H : Hp) (a : Addr) (xs : List V) : Prop := SqL K H a xs ∧ ((∃ o, H a = some (.frz o (.lst xs))) ∨ ∀ H', SqL K H' a xs)

mutual
inductive Rep (K : Fg) (r : List Addr) (H : Hp) : V → W → Prop
  | non : Rep K r H .non .non
  | bl (b : Bool) : Rep K r H (.bl b) (.bl b)
  | int (i : Int) : Rep K r H (.int i) (.int i)
  | str (x : Str) : Rep K r H (.str x) (.str x)
  | tup {a : Addr} {xs : List V} {ws : List W} : SqT K H a xs → RepL K r H xs ws → Rep K r H (.ref a) (.tup ws)
  | lit {a : Addr} {xs : List V} {ws : List W} : LitAt K H a xs → RepL K r H xs ws → Rep K r H (.ref a) (.lit ws)
  | ref {a : Addr} {i : Nat} : r[i]? = some a → Rep K r H (.ref a) (.ref i)
  | raw (v : V) : Rep K r H v (.raw v)
inductive RepL (K : Fg) (r : List Addr) (H : Hp) : List V → List W → Prop
  | nil : RepL K r H [] []
  | cons {v : V} {vs : List V} {w : W} {ws : List W} : Rep K r H v w → RepL K r H vs ws → RepL K r H (v :: vs) (w :: ws)
end

def RelKV (K : Fg) (r : List Addr) (H : Hp) (vs : List (Key × V)) (ws : List (Key × W)) : Prop := vs.map (·.1) = ws.map (·.1) ∧ RepL K r H (vs.map (·.2)) (ws.map (·.2))
def RelO (K : Fg) (r : List Addr) (H : Hp) (a : Addr) : O → Prop
  | .lst ws => ∃ xs, H a = some (.lst xs) ∧ RepL K r H xs ws
  | .dk ws => ∃ vs, H a = some (.dK vs) ∧ RelKV K r H vs ws

structure RelS (K : Fg) (r : List Addr) (H : Hp) (S : Sto) : Prop where
  len : r.length = S.length
  nd : r.Nodup
  obj : ∀ (i : Nat) (a : Addr) (o : O), r[i]? = some a → S[i]? = some o → RelO K r H a o

/-- what readings lean on -/
structure Kp (K : Fg) (r : List Addr) (H : Hp) (r' : List Addr) (H' : Hp) : Prop where
  pre : ∀ (i : Nat) (a : Addr), r[i]? = some a → r'[i]? = some a
  tup : ∀ (b : Addr) (xs : List V), SqT K H b xs → SqT K H' b xs
  frz : ∀ (b : Addr) (o : Obj) (u : HO), H b = some (.frz o u) → H' b = some (.frz o u)
structure Ext (K : Fg) (r : List Addr) (H : Hp) (r' : List Addr) (H' : Hp) : Prop extends Kp K r H r' H' where
  oth : ∀ (b : Addr) (o : HO), H b = some o → b ∉ r → H' b = some o
  new : ∀ b ∈ r', b ∉ r → H b = none

theorem Ext.refl {K : Fg} {r : List Addr} {H : Hp} : Ext K r H r H :=
  ⟨⟨fun _ _ h => h, fun _ _ h => h, fun _ _ _ h => h⟩, fun _ _ h _ => h, fun _ h h' => (h' h).elim⟩
theorem Ext.trans {K : Fg} {r r1 r2 : List Addr} {H H1 H2 : Hp} (a : Ext K r H r1 H1) (b : Ext K r1 H1 r2 H2) : Ext K r H r2 H2 := by
  refine ⟨⟨fun i x h => b.pre i x (a.pre i x h), fun c xs h => b.tup c xs (a.tup c xs h), fun c o u h => b.frz c o u (a.frz c o u h)⟩, fun c o h n => ?_, fun c hc n => ?_⟩
  · refine b.oth c o (a.oth c o h n) fun m => ?_
    rw [a.new c m n] at h
    cases h
  · by_cases m : c ∈ r1
    · exact a.new c m n
    · have e := b.new c hc m
      cases q : H c with
      | none => rfl
      | some o =>
        rw [a.oth c o q n] at e
        cases e

theorem LitAt.mono {K : Fg} {r r' : List Addr} {H H' : Hp} {a : Addr} {xs : List V} (e : Kp K r H r' H') (h : LitAt K H a xs) : LitAt K H' a xs := by
  obtain ⟨h1, h2⟩ := h
  rcases h2 with ⟨o, q⟩ | q
  · exact ⟨.inl (.inr ⟨o, e.frz _ _ _ q⟩), .inl ⟨o, e.frz _ _ _ q⟩⟩
  · exact ⟨q H', .inr q⟩

section
variable {K : Fg} {r r' : List Addr} {H H' : Hp}
mutual
theorem Rep.mono' (e : Kp K r H r' H') : ∀ {v : V} {w : W}, Rep K r H v w → Rep K r' H' v w
  | _, _, .non => .non
  | _, _, .bl b => .bl b
  | _, _, .int i => .int i
  | _, _, .str x => .str x
  | _, _, .tup h l => .tup (e.tup _ _ h) (RepL.mono' e l)
  | _, _, .lit h l => .lit (h.mono e) (RepL.mono' e l)
  | _, _, .ref h => .ref (e.pre _ _ h)
  | _, _, .raw v => .raw v
theorem RepL.mono' (e : Kp K r H r' H') : ∀ {vs : List V} {ws : List W}, RepL K r H vs ws → RepL K r' H' vs ws
  | _, _, .nil => .nil
  | _, _, .cons h l => .cons (Rep.mono' e h) (RepL.mono' e l)
end
theorem Rep.mono (e : Ext K r H r' H') {v : V} {w : W} (h : Rep K r H v w) : Rep K r' H' v w := h.mono' e.toKp
theorem RepL.mono (e : Ext K r H r' H') {vs : List V} {ws : List W} (h : RepL K r H vs ws) : RepL K r' H' vs ws := h.mono' e.toKp
end

section
variable {K : Fg} {r : List Addr} {H : Hp} {S : Sto}
theorem RepL.length : ∀ {vs : List V} {ws : List W}, RepL K r H vs ws → vs.length = ws.length
  | _, _, .nil => rfl
  | _, _, .cons _ l => congrArg (· + 1) (RepL.length l)
theorem RepL.get : ∀ {vs : List V} {ws : List W} {i : Nat} {w : W}, RepL K r H vs ws → ws[i]? = some w → ∃ v, vs[i]? = some v ∧ Rep K r H v w
  | _, _, _, _, .nil, h => by simp at h
  | _, _, 0, _, .cons q _, h => by
    have e := Option.some.inj h
    subst e
    exact ⟨_, rfl, q⟩
  | _, _, i + 1, w, .cons _ l, h => RepL.get (i := i) l h
theorem RepL.getV : ∀ {vs : List V} {ws : List W} {i : Nat} {v : V}, RepL K r H vs ws → vs[i]? = some v → ∃ w, ws[i]? = some w ∧ Rep K r H v w
  | _, _, _, _, .nil, h => by simp at h
  | _, _, 0, _, .cons q _, h => by
    have e := Option.some.inj h
    subst e
    exact ⟨_, rfl, q⟩
  | _, _, i + 1, w, .cons _ l, h => RepL.getV (i := i) l h
theorem RepL.app : ∀ {vs us : List V} {ws xs : List W}, RepL K r H vs ws → RepL K r H us xs → RepL K r H (vs ++ us) (ws ++ xs)
  | _, _, _, _, .nil, h => h
  | _, _, _, _, .cons q l, h => .cons q (RepL.app l h)
theorem RepL.one {v : V} {w : W} (h : Rep K r H v w) : RepL K r H [v] [w] := .cons h .nil
theorem RepL.take : ∀ {vs : List V} {ws : List W} (n : Nat), RepL K r H vs ws → RepL K r H (vs.take n) (ws.take n)
  | _, _, 0, _ => .nil
  | _, _, _ + 1, .nil => .nil
  | _, _, n + 1, .cons q l => .cons q (RepL.take n l)
theorem RepL.drop : ∀ {vs : List V} {ws : List W} (n : Nat), RepL K r H vs ws → RepL K r H (vs.drop n) (ws.drop n)
  | _, _, 0, h => h
  | _, _, _ + 1, .nil => .nil
  | _, _, n + 1, .cons _ l => RepL.drop n l
theorem RepL.set {v : V} {w : W} (h : Rep K r H v w) : ∀ {vs : List V} {ws : List W} (i : Nat), RepL K r H vs ws → RepL K r H (vs.set i v) (ws.set i w)
  | _, _, _, .nil => .nil
  | _, _, 0, .cons _ l => .cons h l
  | _, _, i + 1, .cons q l => .cons q (RepL.set h i l)
theorem RepL.dropLast : ∀ {vs : List V} {ws : List W}, RepL K r H vs ws → RepL K r H vs.dropLast ws.dropLast
  | _, _, .nil => .nil
  | _, _, .cons q .nil => .nil
  | _, _, .cons q (.cons q' l) => .cons q (RepL.dropLast (.cons q' l))
theorem RepL.eraseIdx : ∀ {vs : List V} {ws : List W} (i : Nat), RepL K r H vs ws → RepL K r H (vs.eraseIdx i) (ws.eraseIdx i)
  | _, _, _, .nil => .nil
  | _, _, 0, .cons _ l => l
  | _, _, i + 1, .cons q l => .cons q (RepL.eraseIdx i l)
theorem RepL.rev : ∀ {vs : List V} {ws : List W}, RepL K r H vs ws → RepL K r H vs.reverse ws.reverse
  | _, _, .nil => .nil
  | _, _, .cons q l => by
    rw [List.reverse_cons, List.reverse_cons]
    exact RepL.app (RepL.rev l) (.one q)

theorem RelS.lt (R : RelS K r H S) {i : Nat} {a : Addr} (h : r[i]? = some a) : i < S.length := by
  rw [← R.len]
  exact (List.getElem?_eq_some_iff.mp h).1
theorem RelS.at (R : RelS K r H S) {i : Nat} {o : O} (h : S[i]? = some o) : ∃ a, r[i]? = some a ∧ RelO K r H a o := by
  have l : i < r.length := by
    rw [R.len]
    exact (List.getElem?_eq_some_iff.mp h).1
  exact ⟨r[i], List.getElem?_eq_getElem l, R.obj i _ o (List.getElem?_eq_getElem l) h⟩
theorem RelS.ix (R : RelS K r H S) {i j : Nat} {a : Addr} (h : r[i]? = some a) (h' : r[j]? = some a) : i = j := by
  obtain ⟨h1, e1⟩ := List.getElem?_eq_some_iff.mp h
  obtain ⟨h2, e2⟩ := List.getElem?_eq_some_iff.mp h'
  exact (List.getElem_inj R.nd).mp (e1.trans e2.symm)

theorem sqT_upd {p : Addr} {o : HO} (h : H p = none) : ∀ b xs, SqT K H b xs → SqT K (upd H p o) b xs := fun b xs q => by
  rcases q with (q | ⟨u, q⟩) | q
  · exact .inl (.inl (by rw [upd_ne (ne_of_none q h)]; exact q))
  · exact .inl (.inr ⟨u, by rw [upd_ne (ne_of_none q h)]; exact q⟩)
  · exact .inr q
/-- what may be written: no tuple, nothing locked -/
def Soft : HO → Prop
  | .lst _ => True
  | .dK _ => True
  | _ => False
theorem sqT_wr {p : Addr} {o u : HO} (h : H p = some u) (m : Soft u) : ∀ b xs, SqT K H b xs → SqT K (upd H p o) b xs := fun b xs q => by
  rcases q with (q | ⟨v, q⟩) | q
  · exact .inl (.inl (by rw [upd_ne (ne_of q h (by intro z; rw [← z] at m; exact m))]; exact q))
  · exact .inl (.inr ⟨v, by rw [upd_ne (ne_of q h (by intro z; rw [← z] at m; exact m))]; exact q⟩)
  · exact .inr q
theorem RelO.soft {a : Addr} {o : O} (x : RelO K r H a o) : ∃ u, H a = some u ∧ Soft u := by
  cases o with
  | lst ws =>
    obtain ⟨xs, h1, h2⟩ := x
    exact ⟨_, h1, trivial⟩
  | dk ws =>
    obtain ⟨xs, h1, h2⟩ := x
    exact ⟨_, h1, trivial⟩
theorem relO_mono' {r' : List Addr} {H' : Hp} {a : Addr} {o : O} (e : Kp K r H r' H') (hl : H' a = H a) (x : RelO K r H a o) : RelO K r' H' a o := by
  cases o with
  | lst ws =>
    obtain ⟨xs, h1, h2⟩ := x
    exact ⟨xs, by rw [hl]; exact h1, h2.mono' e⟩
  | dk ws =>
    obtain ⟨xs, h1, h2, h3⟩ := x
    exact ⟨xs, by rw [hl]; exact h1, h2, h3.mono' e⟩
theorem relO_mono {r' : List Addr} {H' : Hp} {a : Addr} {o : O} (e : Ext K r H r' H') (hl : H' a = H a) (x : RelO K r H a o) : RelO K r' H' a o := relO_mono' e.toKp hl x
theorem RelS.there (R : RelS K r H S) {i : Nat} {a : Addr} (ha : r[i]? = some a) : ∃ u, H a = some u ∧ Soft u := by
  have l := R.lt ha
  exact (R.obj i a _ ha (List.getElem?_eq_getElem l)).soft
theorem RelS.notin (R : RelS K r H S) {p : Addr} (h : H p = none) : p ∉ r := fun m => by
  obtain ⟨i, l, e⟩ := List.mem_iff_getElem.mp m
  obtain ⟨u, q, _⟩ := R.there (i := i) (a := p) (by rw [List.getElem?_eq_getElem l, e])
  rw [h] at q
  cases q
/-- a new object that is no member of the store (a tuple, ..) -/
theorem ext_new {p : Addr} {o : HO} (h : H p = none) : Ext K r H r (upd H p o) :=
  ⟨⟨fun _ _ q => q, sqT_upd h, fun b o u q => by rw [upd_ne (ne_of_none q h)]; exact q⟩, fun b u q _ => by rw [upd_ne (ne_of_none q h)]; exact q, fun _ q n => (n q).elim⟩
theorem rel_new (R : RelS K r H S) {p : Addr} {o : HO} (h : H p = none) : RelS K r (upd H p o) S :=
  ⟨R.len, R.nd, fun i a ob ha hs => by
    obtain ⟨u, q, _⟩ := R.there ha
    exact relO_mono (ext_new h) (upd_ne (ne_of_none q h)) (R.obj i a ob ha hs)⟩
theorem rep_tup {p : Addr} {xs : List V} {ws : List W} (h : H p = none) (l : RepL K r H xs ws) : Rep K r (upd H p (.tup xs)) (.ref p) (.tup ws) :=
  .tup (.of upd_same) (l.mono (ext_new h))
/-- a new object, a member of the store -/
theorem ext_mem {p : Addr} {u : HO} (h : H p = none) : Ext K r H (r ++ [p]) (upd H p u) := by
  refine ⟨⟨fun i a q => ?_, sqT_upd h, fun b o u q => by rw [upd_ne (ne_of_none q h)]; exact q⟩, fun b u q _ => by rw [upd_ne (ne_of_none q h)]; exact q, fun b q n => ?_⟩
  · rw [List.getElem?_append_left (List.getElem?_eq_some_iff.mp q).1]
    exact q
  · rcases List.mem_append.mp q with m | m
    · exact (n m).elim
    · rw [List.mem_singleton.mp m]
      exact h
theorem rel_mem (R : RelS K r H S) {p : Addr} {u : HO} {o : O} (h : H p = none) (x : RelO K (r ++ [p]) (upd H p u) p o) : RelS K (r ++ [p]) (upd H p u) (S ++ [o]) := by
  refine ⟨by rw [List.length_append, List.length_append, R.len]; rfl, ?_, fun i a ob ha hs => ?_⟩
  · rw [List.nodup_append]
    refine ⟨R.nd, List.nodup_cons.mpr ⟨List.not_mem_nil, List.nodup_nil⟩, fun a ha b hb e => ?_⟩
    rw [List.mem_singleton.mp hb] at e
    exact R.notin h (e ▸ ha)
  · by_cases l : i < r.length
    · rw [List.getElem?_append_left l] at ha
      rw [List.getElem?_append_left (by rw [← R.len]; exact l)] at hs
      obtain ⟨v, q, _⟩ := R.there ha
      exact relO_mono (ext_mem h) (upd_ne (ne_of_none q h)) (R.obj i a ob ha hs)
    · rw [List.getElem?_append_right (Nat.le_of_not_lt l)] at ha
      rw [List.getElem?_append_right (by rw [← R.len]; exact Nat.le_of_not_lt l), ← R.len] at hs
      cases e : i - r.length with
      | zero =>
        rw [e] at ha hs
        have e1 : p = a := Option.some.inj ha
        have e2 : o = ob := Option.some.inj hs
        rw [← e1, ← e2]
        exact x
      | succ n =>
        rw [e] at ha
        simp at ha
theorem rep_mem (R : RelS K r H S) {p : Addr} {H' : Hp} : Rep K (r ++ [p]) H' (.ref p) (.ref S.length) := .ref (by rw [← R.len, List.getElem?_concat_length])
theorem new_lst (R : RelS K r H S) {p : Addr} {xs : List V} {ws : List W} (h : H p = none) (l : RepL K r H xs ws) : RelS K (r ++ [p]) (upd H p (.lst xs)) (S ++ [.lst ws]) :=
  rel_mem R h ⟨xs, upd_same, l.mono (ext_mem h)⟩
/-- a member of the store is written -/
theorem ext_wr {i : Nat} {p : Addr} {u u' : HO} (hp : r[i]? = some p) (h : H p = some u) (m : Soft u) : Ext K r H r (upd H p u') :=
  ⟨⟨fun _ _ q => q, sqT_wr h m, fun b o v q => by rw [upd_ne (ne_of q h (by intro z; rw [← z] at m; exact m))]; exact q⟩, fun b o q n => by rw [upd_ne (fun e => n (by rw [e]; exact List.mem_of_getElem? hp))]; exact q, fun _ q n => (n q).elim⟩
theorem rel_wr (R : RelS K r H S) {i : Nat} {p : Addr} {u u' : HO} {o : O} (hp : r[i]? = some p) (h : H p = some u) (m : Soft u) (x : RelO K r (upd H p u') p o) : RelS K r (upd H p u') (S.set i o) := by
  refine ⟨by rw [List.length_set]; exact R.len, R.nd, fun j a ob ha hs => ?_⟩
  by_cases e : j = i
  · subst e
    rw [hp] at ha
    have e1 := Option.some.inj ha
    subst e1
    rw [List.getElem?_set_self (R.lt hp)] at hs
    have e2 := Option.some.inj hs
    subst e2
    exact x
  · rw [List.getElem?_set_ne (Ne.symm e)] at hs
    have ne : a ≠ p := fun z => e (R.ix ha (z ▸ hp))
    exact relO_mono (ext_wr hp h m) (upd_ne ne) (R.obj j a ob ha hs)
theorem wr_lst (R : RelS K r H S) {i : Nat} {p : Addr} {xs xs' : List V} {ws' : List W} (hp : r[i]? = some p) (h : H p = some (.lst xs)) (l : RepL K r H xs' ws') : RelS K r (upd H p (.lst xs')) (S.set i (.lst ws')) :=
  rel_wr R hp h trivial ⟨xs', upd_same, l.mono (ext_wr hp h trivial)⟩

/-- an object apart from the store -/
theorem Ext.apart {r' : List Addr} {H' : Hp} {D : Addr} {o : HO} (e : Ext K r H r' H') (n : D ∉ r) (h : H D = some o) : D ∉ r' ∧ H' D = some o :=
  ⟨fun m => (ne_of_none h (e.new D m n)) rfl, e.oth D o h n⟩
theorem Kp.hid {D : Addr} {o u : HO} (h : H D = some u) (m : Soft u) : Kp K r H r (upd H D o) :=
  ⟨fun _ _ q => q, sqT_wr h m, fun b ob v q => by rw [upd_ne (ne_of q h (by intro z; rw [← z] at m; exact m))]; exact q⟩
theorem Ext.hid {r' : List Addr} {H' : Hp} {D : Addr} {o u : HO} (e : Ext K r H r' H') (h0 : H D = none) (h : H' D = some u) (m : Soft u) : Ext K r H r' (upd H' D o) :=
  ⟨⟨e.pre, fun b xs q => sqT_wr h m b xs (e.tup b xs q), fun b ob v q => (Kp.hid (K := K) (r := r) h m).frz b ob v (e.frz b ob v q)⟩, fun b ob q n => by rw [upd_ne (ne_of_none q h0)]; exact e.oth b ob q n, e.new⟩
theorem RelS.hid (R : RelS K r H S) {D : Addr} {o u : HO} (n : D ∉ r) (h : H D = some u) (m : Soft u) : RelS K r (upd H D o) S :=
  ⟨R.len, R.nd, fun i a ob ha hs => relO_mono' (Kp.hid h m) (upd_ne fun e => n (by rw [← e]; exact List.mem_of_getElem? ha)) (R.obj i a ob ha hs)⟩
theorem Ext.join {r' : List Addr} {H' : Hp} {D : Addr} (e : Ext K r H r' H') (h0 : H D = none) : Ext K r H (r' ++ [D]) H' :=
  ⟨⟨fun i a q => by
    have q' := e.pre i a q
    rw [List.getElem?_append_left (List.getElem?_eq_some_iff.mp q').1]
    exact q', e.tup, e.frz⟩, e.oth, fun b q n => by
    rcases List.mem_append.mp q with m | m
    · exact e.new b m n
    · rw [List.mem_singleton.mp m]
      exact h0⟩
theorem Kp.join {D : Addr} : Kp K r H (r ++ [D]) H :=
  ⟨fun i a q => by
    rw [List.getElem?_append_left (List.getElem?_eq_some_iff.mp q).1]
    exact q, fun _ _ q => q, fun _ _ _ q => q⟩
theorem RelS.join (R : RelS K r H S) {D : Addr} {xs : List V} {ws : List W} (n : D ∉ r) (h : H D = some (.lst xs)) (l : RepL K r H xs ws) : RelS K (r ++ [D]) H (S ++ [.lst ws]) := by
  refine ⟨by rw [List.length_append, List.length_append, R.len]; rfl, ?_, fun i a ob ha hs => ?_⟩
  · rw [List.nodup_append]
    refine ⟨R.nd, List.nodup_cons.mpr ⟨List.not_mem_nil, List.nodup_nil⟩, fun a ha b hb e => ?_⟩
    rw [List.mem_singleton.mp hb] at e
    exact n (e ▸ ha)
  · by_cases l' : i < r.length
    · rw [List.getElem?_append_left l'] at ha
      rw [List.getElem?_append_left (by rw [← R.len]; exact l')] at hs
      exact relO_mono' Kp.join rfl (R.obj i a ob ha hs)
    · rw [List.getElem?_append_right (Nat.le_of_not_lt l')] at ha
      rw [List.getElem?_append_right (by rw [← R.len]; exact Nat.le_of_not_lt l'), ← R.len] at hs
      cases e : i - r.length with
      | zero =>
        rw [e] at ha hs
        have e1 : D = a := Option.some.inj ha
        have e2 : O.lst ws = ob := Option.some.inj hs
        rw [← e1, ← e2]
        exact ⟨xs, h, l.mono' Kp.join⟩
      | succ n =>
        rw [e] at ha
        simp at ha

/-- the slots -/
def RepE (K : Fg) (r : List Addr) (H : Hp) (s : L2.St) (env : Slots) : Prop := s.length = env.length ∧ ∀ (i : Nat) (w : W), env[i]? = some (some w) → ∃ v, s[i]? = some (some v) ∧ Rep K r H v w
theorem RepE.mono {r' : List Addr} {H' : Hp} {s : L2.St} {env : Slots} (e : Ext K r H r' H') (h : RepE K r H s env) : RepE K r' H' s env :=
  ⟨h.1, fun i w q => by
    obtain ⟨v, a, b⟩ := h.2 i w q
    exact ⟨v, a, b.mono e⟩⟩
theorem RepE.set {s : L2.St} {env : Slots} {v : V} {w : W} (h : RepE K r H s env) (q : Rep K r H v w) (i : Nat) : RepE K r H (s.set i (some v)) (env.set i (some w)) := by
  refine ⟨by rw [List.length_set, List.length_set]; exact h.1, fun j x e => ?_⟩
  by_cases hj : j = i
  · subst hj
    have l : j < env.length := by
      have := (List.getElem?_eq_some_iff.mp e).1
      rw [List.length_set] at this
      exact this
    rw [List.getElem?_set_self l] at e
    have e1 := Option.some.inj (Option.some.inj e)
    subst e1
    exact ⟨v, List.getElem?_set_self (by rw [h.1]; exact l), q⟩
  · rw [List.getElem?_set_ne (Ne.symm hj)] at e
    obtain ⟨u, a, b⟩ := h.2 j x e
    exact ⟨u, by rw [List.getElem?_set_ne (Ne.symm hj)]; exact a, b⟩
def wipeW (env : Slots) : List Nat → Slots
  | [] => env
  | v :: vs => (wipeW env vs).set v none
theorem RepE.nil {s : L2.St} {env : Slots} (h : RepE K r H s env) (i : Nat) : RepE K r H (s.set i none) (env.set i none) := by
  refine ⟨by rw [List.length_set, List.length_set]; exact h.1, fun j x e => ?_⟩
  by_cases hj : j = i
  · subst hj
    have l : j < env.length := by
      have := (List.getElem?_eq_some_iff.mp e).1
      rw [List.length_set] at this
      exact this
    rw [List.getElem?_set_self l] at e
    cases e
  · rw [List.getElem?_set_ne (Ne.symm hj)] at e
    obtain ⟨u, a, b⟩ := h.2 j x e
    exact ⟨u, by rw [List.getElem?_set_ne (Ne.symm hj)]; exact a, b⟩
theorem RepE.wipe {s : L2.St} {env : Slots} (h : RepE K r H s env) : ∀ vs : List Nat, RepE K r H (L2.wipe s vs) (wipeW env vs)
  | [] => h
  | v :: vs => RepE.nil (RepE.wipe h vs) v
theorem RepE.start {N : List Str} {vs : List V} {ws : List W} (l : RepL K r H vs ws) : RepE K r H (L2.start N vs) (ws.map some ++ List.replicate (N.length - ws.length) none) := by
  have hl := l.length
  refine ⟨by simp [L2.start, hl], fun i w e => ?_⟩
  by_cases hi : i < ws.length
  · rw [List.getElem?_append_left (by rw [List.length_map]; exact hi), List.getElem?_map, List.getElem?_eq_getElem hi] at e
    have e1 : ws[i] = w := Option.some.inj (Option.some.inj e)
    obtain ⟨v, a, b⟩ := l.get (List.getElem?_eq_getElem hi)
    rw [e1] at b
    refine ⟨v, ?_, b⟩
    show (vs.map some ++ List.replicate (N.length - vs.length) Option.none)[i]? = _
    rw [List.getElem?_append_left (by rw [List.length_map, hl]; exact hi), List.getElem?_map, a]
    rfl
  · rw [List.getElem?_append_right (by rw [List.length_map]; exact Nat.le_of_not_lt hi)] at e
    rw [List.getElem?_replicate] at e
    split at e
    · cases Option.some.inj e
    · cases e
end
end DL

/-! DLb: the judgements over trees and the store; expressions, tests, arguments. -/
namespace DL
open PySem PySem.Spec PyProof.Rows L2

abbrev WK := W → Sto → Prop
abbrev DE := Slots → Sto → WK → Prop
abbrev DT := Slots → Sto → (Bool → Sto → Prop) → Prop
abbrev DA := Slots → Sto → (List W → Sto → Prop) → Prop
abbrev DG := W → Slots → Sto → (Slots → Sto → Prop) → Prop
structure DEnds where
  nx : Slots → Sto → Prop
  rt : WK
  bk : Slots → Sto → Prop
  ct : Slots → Sto → Prop
abbrev DS := DEnds → Slots → Sto → Prop

def Sim (K : Fg) (t : TE) (d : DE) : Prop := ∀ (r : List Addr) (H : Hp) (S : Sto) (s : L2.St) (env : Slots) (Q : WK) (Q0 : VK), RelS K r H S → RepE K r H s env → d env S Q →
  (∀ r' H' S' v w, Ext K r H r' H' → RelS K r' H' S' → Rep K r' H' v w → Q w S' → Q0 v H') → t s H Q0
def SimT (K : Fg) (t : TT) (d : DT) : Prop := ∀ (r : List Addr) (H : Hp) (S : Sto) (s : L2.St) (env : Slots) (Q : Bool → Sto → Prop) (Q0 : Bool → Hp → Prop), RelS K r H S → RepE K r H s env → d env S Q →
  (∀ r' H' S' b, Ext K r H r' H' → RelS K r' H' S' → Q b S' → Q0 b H') → t s H Q0
def SimA (K : Fg) (t : TA) (d : DA) : Prop := ∀ (r : List Addr) (H : Hp) (S : Sto) (s : L2.St) (env : Slots) (Q : List W → Sto → Prop) (Q0 : List V → Hp → Prop), RelS K r H S → RepE K r H s env → d env S Q →
  (∀ r' H' S' vs ws, Ext K r H r' H' → RelS K r' H' S' → RepL K r' H' vs ws → Q ws S' → Q0 vs H') → t s H Q0
def SimG (K : Fg) (t : TG) (d : DG) : Prop := ∀ (r : List Addr) (H : Hp) (S : Sto) (s : L2.St) (env : Slots) (v : V) (w : W) (Q : Slots → Sto → Prop) (Q0 : L2.St → Hp → Prop), RelS K r H S → RepE K r H s env → Rep K r H v w → d w env S Q →
  (∀ r' H' S' s' env', Ext K r H r' H' → RelS K r' H' S' → RepE K r' H' s' env' → Q env' S' → Q0 s' H') → t v s H Q0
structure EndsR (K : Fg) (r : List Addr) (H : Hp) (D' : DEnds) (D : Ends) : Prop where
  nx : ∀ r' H' S' s' env', Ext K r H r' H' → RelS K r' H' S' → RepE K r' H' s' env' → D'.nx env' S' → D.nx s' H'
  rt : ∀ r' H' S' v w, Ext K r H r' H' → RelS K r' H' S' → Rep K r' H' v w → D'.rt w S' → D.rt v H'
  bk : ∀ r' H' S' s' env', Ext K r H r' H' → RelS K r' H' S' → RepE K r' H' s' env' → D'.bk env' S' → D.bk s' H'
  ct : ∀ r' H' S' s' env', Ext K r H r' H' → RelS K r' H' S' → RepE K r' H' s' env' → D'.ct env' S' → D.ct s' H'
theorem EndsR.mono {K : Fg} {r r' : List Addr} {H H' : Hp} {D' : DEnds} {D : Ends} (e : Ext K r H r' H') (h : EndsR K r H D' D) : EndsR K r' H' D' D :=
  ⟨fun _ _ _ _ _ a => h.nx _ _ _ _ _ (e.trans a), fun _ _ _ _ _ a => h.rt _ _ _ _ _ (e.trans a), fun _ _ _ _ _ a => h.bk _ _ _ _ _ (e.trans a), fun _ _ _ _ _ a => h.ct _ _ _ _ _ (e.trans a)⟩
def SimS (K : Fg) (t : TS) (d : DS) : Prop := ∀ (r : List Addr) (H : Hp) (S : Sto) (s : L2.St) (env : Slots) (D' : DEnds) (D : Ends), RelS K r H S → RepE K r H s env → d D' env S → EndsR K r H D' D → t D s H

structure XE (X : Cx) (e : Expr) (d : DE) : Prop where
  ex : ∃ t, PE X e t ∧ Sim X.K t d
structure XT (X : Cx) (e : Expr) (d : DT) : Prop where
  ex : ∃ t, PT X e t ∧ SimT X.K t d
structure XW (X : Cx) (e : Expr) (d : DT) : Prop where
  ex : ∃ t, PW X e t ∧ SimT X.K t d
structure XA (X : Cx) (es : List Expr) (d : DA) : Prop where
  ex : ∃ t, PA X es t ∧ SimA X.K t d
structure XG (X : Cx) (tg : Expr) (d : DG) : Prop where
  ex : ∃ t, PG X tg t ∧ SimG X.K t d
structure XS (X : Cx) (st : Stmt) (d : DS) : Prop where
  ex : ∃ t, PS X st t ∧ SimS X.K t d
structure XSs (X : Cx) (st : List Stmt) (d : DS) : Prop where
  ex : ∃ t, PSs X st t ∧ SimS X.K t d

section
variable {X : Cx} {pos : Pos}
/-! ### names, constants -/
def dVar (i : Nat) : DE := fun env S Q => ∃ w, env[i]? = some (some w) ∧ Q w S
def dC (w : W) : DE := fun _ S Q => Q w S
theorem sim_c {K : Fg} {v : V} {w : W} (h : ∀ r H, Rep K r H v w) : Sim K (tC v) (dC w) := fun r H S s env Q Q0 R E d k => k r H S v w .refl R (h r H) d
theorem xe_int {i j} : XE X (.Constant (.int i) j pos) (dC (.int i)) := ⟨_, pe_int, sim_c fun _ _ => .int i⟩
theorem xe_bl {b j} : XE X (.Constant (.bool b) j pos) (dC (.bl b)) := ⟨_, pe_bl, sim_c fun _ _ => .bl b⟩
theorem xe_non {j} : XE X (.Constant .none j pos) (dC .non) := ⟨_, pe_non, sim_c fun _ _ => .non⟩
theorem xe_str {x j} : XE X (.Constant (.str x) j pos) (dC (.str x)) := ⟨_, pe_str, sim_c fun _ _ => .str x⟩
theorem xv (i : Nat) {x : Str} (hN : X.N[i]? = some x := by rfl) (hv : Vis X.env.scope x := by first | exact Or.inl rfl | exact Or.inr (Or.inl rfl) | exact Or.inr (Or.inr rfl)) (hd : (x == ("__debug__" : Str)) = false := by decide)
    (hcd : (x == ("__classdict__" : Str)) = false := by decide) : XE X (.Name x pos) (dVar i) := by
  refine ⟨_, pe_var hN hv hd hcd, fun r H S s env Q Q0 R E d k => ?_⟩
  obtain ⟨w, e, q⟩ := d
  obtain ⟨v, e', h⟩ := E.2 i w e
  exact ⟨v, e', k r H S v w .refl R h q⟩
/-- a built-in type as a value -/
theorem xe_ty {x : Str} {n : String} (hg : Gl X x) (hm : X.mg x = none) (hv : bootBuiltins x = some (.type n)) (hn : x ≠ "__name__" := by decide) (hd : (x == ("__debug__" : Str)) = false := by decide) :
    XE X (.Name x pos) (dC (.raw (.ty n))) := ⟨_, pe_bltn hg hm hv (show RelV (.ty n) (.type n) from rfl) hn hd, sim_c fun _ _ => .raw _⟩

/-! ### arguments, displays -/
def aNil : DA := fun _ S Q => Q [] S
def aCons (da : DE) (dr : DA) : DA := fun env S Q => da env S fun w S1 => dr env S1 fun ws S2 => Q (w :: ws) S2
theorem xa_nil : XA X [] aNil := ⟨_, pa_nil, fun r H S s env Q Q0 R E d k => k r H S [] [] .refl R .nil d⟩
theorem sim_cons {K : Fg} {ta : TE} {tr : TA} {da : DE} {dr : DA} (sa : Sim K ta da) (sr : SimA K tr dr) : SimA K (tCons ta tr) (aCons da dr) := fun r H S s env Q Q0 R E d k =>
  sa r H S s env _ _ R E d fun r1 H1 S1 v w e1 R1 p1 d1 => sr r1 H1 S1 s env _ _ R1 (E.mono e1) d1 fun r2 H2 S2 vs ws e2 R2 p2 q => k r2 H2 S2 _ _ (e1.trans e2) R2 (.cons (p1.mono e2) p2) q
theorem xa_cons {e : Expr} {es : List Expr} {da : DE} {dr : DA} (ha : XE X e da) (hr : XA X es dr) (hs : starEach (e :: es) X.env = (false, eval e X.env) :: starEach es X.env := by rfl) : XA X (e :: es) (aCons da dr) := by
  obtain ⟨ta, pa, sa⟩ := ha.ex
  obtain ⟨tr, pr, sr⟩ := hr.ex
  exact ⟨_, pa_cons pa pr hs, sim_cons sa sr⟩
def dTup (da : DA) : DE := fun env S Q => da env S fun ws S1 => ws.length ≤ sizeLine ∧ Q (.tup ws) S1
def dLst (da : DA) : DE := fun env S Q => da env S fun ws S1 => ws.length ≤ sizeLine ∧ Q (.ref S1.length) (S1 ++ [.lst ws])
theorem xe_tup {es : List Expr} {da : DA} {k : Nat} (ha : XA X es da) : XE X (.Tuple es k pos) (dTup da) := by
  obtain ⟨ta, pa, sa⟩ := ha.ex
  refine ⟨_, pe_tup pa, fun r H S s env Q Q0 R E d k => ?_⟩
  refine sa r H S s env _ _ R E d fun r1 H1 S1 vs ws e1 R1 p1 d1 => ?_
  refine ⟨by rw [p1.length]; exact d1.1, fun p hp => ?_⟩
  exact k r1 _ S1 _ _ (e1.trans (ext_new hp)) (rel_new R1 hp) (rep_tup hp p1) d1.2
theorem xe_lst {es : List Expr} {da : DA} (ha : XA X es da) : XE X (.List es pos) (dLst da) := by
  obtain ⟨ta, pa, sa⟩ := ha.ex
  refine ⟨_, pe_lst pa, fun r H S s env Q Q0 R E d k => ?_⟩
  refine sa r H S s env _ _ R E d fun r1 H1 S1 vs ws e1 R1 p1 d1 => ?_
  refine ⟨by rw [p1.length]; exact d1.1, fun p hp => ?_⟩
  exact k _ _ _ _ _ (e1.trans (ext_mem hp)) (new_lst R1 hp p1) (rep_mem R1) d1.2

/-! ### operators -/
def SimR (K : Fg) (t : R2) (d : W → W → Sto → WK → Prop) : Prop := ∀ (r : List Addr) (H : Hp) (S : Sto) (x y : V) (wx wy : W) (Q : WK) (Q0 : VK), RelS K r H S → Rep K r H x wx → Rep K r H y wy → d wx wy S Q →
  (∀ r' H' S' v w, Ext K r H r' H' → RelS K r' H' S' → Rep K r' H' v w → Q w S' → Q0 v H') → t x y H Q0
def SimU (K : Fg) (t : V → Hp → VK → Prop) (d : W → Sto → WK → Prop) : Prop := ∀ (r : List Addr) (H : Hp) (S : Sto) (x : V) (wx : W) (Q : WK) (Q0 : VK), RelS K r H S → Rep K r H x wx → d wx S Q →
  (∀ r' H' S' v w, Ext K r H r' H' → RelS K r' H' S' → Rep K r' H' v w → Q w S' → Q0 v H') → t x H Q0
def SimC (K : Fg) (t : List V → Hp → VK → Prop) (d : List W → Sto → WK → Prop) : Prop := ∀ (r : List Addr) (H : Hp) (S : Sto) (xs : List V) (ws : List W) (Q : WK) (Q0 : VK), RelS K r H S → RepL K r H xs ws → d ws S Q →
  (∀ r' H' S' v w, Ext K r H r' H' → RelS K r' H' S' → Rep K r' H' v w → Q w S' → Q0 v H') → t xs H Q0
def SimM (K : Fg) (t : V → List V → Hp → VK → Prop) (d : W → List W → Sto → WK → Prop) : Prop := ∀ (r : List Addr) (H : Hp) (S : Sto) (x : V) (xs : List V) (wx : W) (ws : List W) (Q : WK) (Q0 : VK), RelS K r H S → Rep K r H x wx → RepL K r H xs ws → d wx ws S Q →
  (∀ r' H' S' v w, Ext K r H r' H' → RelS K r' H' S' → Rep K r' H' v w → Q w S' → Q0 v H') → t x xs H Q0
def dOp (d : W → W → Sto → WK → Prop) (da db : DE) : DE := fun env S Q => da env S fun x S1 => db env S1 fun y S2 => d x y S2 Q
def dUn (d : W → Sto → WK → Prop) (da : DE) : DE := fun env S Q => da env S fun x S1 => d x S1 Q
def dCB (d : List W → Sto → WK → Prop) (da : DA) : DE := fun env S Q => da env S fun ws S1 => d ws S1 Q
theorem sim_op {K : Fg} {t : R2} {d : W → W → Sto → WK → Prop} {ta tb : TE} {da db : DE} (h : SimR K t d) (sa : Sim K ta da) (sb : Sim K tb db) : Sim K (tOp t ta tb) (dOp d da db) := fun r H S s env Q Q0 R E g k =>
  sa r H S s env _ _ R E g fun r1 H1 S1 v w e1 R1 p1 d1 => sb r1 H1 S1 s env _ _ R1 (E.mono e1) d1 fun r2 H2 S2 u z e2 R2 p2 d2 =>
    h r2 H2 S2 v u w z Q Q0 R2 (p1.mono e2) p2 d2 fun r3 H3 S3 a b e3 => k r3 H3 S3 a b ((e1.trans e2).trans e3)
theorem sim_un {K : Fg} {t : V → Hp → VK → Prop} {d : W → Sto → WK → Prop} {ta : TE} {da : DE} (h : SimU K t d) (sa : Sim K ta da) : Sim K (tUn t ta) (dUn d da) := fun r H S s env Q Q0 R E g k =>
  sa r H S s env _ _ R E g fun r1 H1 S1 v w e1 R1 p1 d1 => h r1 H1 S1 v w Q Q0 R1 p1 d1 fun r3 H3 S3 a b e3 => k r3 H3 S3 a b (e1.trans e3)
theorem sim_cb {K : Fg} {t : List V → Hp → VK → Prop} {d : List W → Sto → WK → Prop} {ta : TA} {da : DA} (h : SimC K t d) (sa : SimA K ta da) : Sim K (tCB t ta) (dCB d da) := fun r H S s env Q Q0 R E g k =>
  sa r H S s env _ _ R E g fun r1 H1 S1 v w e1 R1 p1 d1 => h r1 H1 S1 v w Q Q0 R1 p1 d1 fun r3 H3 S3 a b e3 => k r3 H3 S3 a b (e1.trans e3)
variable {a b e o : Expr} {es : List Expr} {da db : DE} {dA : DA}
theorem xe_op {op : Operator} {t : R2} {d : W → W → Sto → WK → Prop} (ho : OpR X (binaryOp op) t) (h : SimR X.K t d) (ha : XE X a da) (hb : XE X b db) : XE X (.BinOp a op b pos) (dOp d da db) := by
  obtain ⟨ta, pa, sa⟩ := ha.ex
  obtain ⟨tb, pb, sb⟩ := hb.ex
  exact ⟨_, pe_op ho pa pb, sim_op h sa sb⟩
theorem xe_un {op : UnaryOp} {t : V → Hp → VK → Prop} {d : W → Sto → WK → Prop} (ho : UnR X (unaryOp op) t) (h : SimU X.K t d) (ha : XE X a da) : XE X (.UnaryOp op a pos) (dUn d da) := by
  obtain ⟨ta, pa, sa⟩ := ha.ex
  exact ⟨_, pe_un ho pa, sim_un h sa⟩
theorem xe_cmp {op : CmpOp} {t : R2} {d : W → W → Sto → WK → Prop} (ho : OpR X (compareOp op) t) (h : SimR X.K t d) (ha : XE X a da) (hb : XE X b db) (hm : behindInMarks op b = false := by first | exact nomark _ | rfl) : XE X (.Compare a [op] [b] pos) (dOp d da db) := by
  obtain ⟨ta, pa, sa⟩ := ha.ex
  obtain ⟨tb, pb, sb⟩ := hb.ex
  exact ⟨_, pe_cmpR ho pa pb hm, sim_op h sa sb⟩
/-- a bool as a test -/
def dB (da : DE) : DT := fun env S Q => da env S fun w S1 => ∃ c, w = .bl c ∧ Q c S1
theorem sim_B {K : Fg} {t : TE} {d : DE} (sa : Sim K t d) : SimT K (tTest t) (dB d) := fun r H S s env Q Q0 R E g k =>
  sa r H S s env _ _ R E g fun r1 H1 S1 v w e1 R1 p1 d1 => by
    obtain ⟨c, rfl, q⟩ := d1
    cases p1
    exact ⟨c, rfl, k r1 H1 S1 c e1 R1 q⟩
theorem xt_cmp {op : CmpOp} {t : R2} {d : W → W → Sto → WK → Prop} (ho : OpR X (compareOp op) t) (h : SimR X.K t d) (ha : XE X a da) (hb : XE X b db) (hm : behindInMarks op b = false := by first | exact nomark _ | rfl) : XT X (.Compare a [op] [b] pos) (dB (dOp d da db)) := by
  obtain ⟨ta, pa, sa⟩ := ha.ex
  obtain ⟨tb, pb, sb⟩ := hb.ex
  exact ⟨_, pt_cmpR ho pa pb hm, sim_B (sim_op h sa sb)⟩
/-- truth of any value -/
def vTru (w : W) (S : Sto) (Q : Bool → Prop) : Prop := match w with
  | .non => Q false
  | .bl b => Q b
  | .int i => Q (i != 0)
  | .str y => y.length ≤ sizeLine ∧ Q ((y.length : Int) != 0)
  | .tup ws => Q (!ws.isEmpty)
  | .lit ws => Q (!ws.isEmpty)
  | .ref i => (∃ ws, S[i]? = some (.lst ws) ∧ Q (!ws.isEmpty)) ∨ ∃ kvs, S[i]? = some (.dk kvs) ∧ Q (!kvs.isEmpty)
  | .raw _ => False
theorem repL_empty {K : Fg} {r : List Addr} {H : Hp} {vs : List V} {ws : List W} (h : RepL K r H vs ws) : ws.isEmpty = vs.isEmpty := by cases h <;> rfl
theorem tru_sim {K : Fg} {r : List Addr} {H : Hp} {S : Sto} {v : V} {w : W} {Q : Bool → Prop} (R : RelS K r H S) (p : Rep K r H v w) (h : vTru w S Q) : ∃ k, TruV K v H k ∧ Q k := by
  cases p with
  | non => exact ⟨false, rfl, h⟩
  | bl b => exact ⟨b, rfl, h⟩
  | int i => exact ⟨_, rfl, h⟩
  | str x => exact ⟨_, ⟨h.1, rfl⟩, h.2⟩
  | tup q l => exact ⟨_, .inr (.inl ⟨_, q, rfl⟩), by rw [← repL_empty l]; exact h⟩
  | lit q l => exact ⟨_, .inl ⟨_, q.1, rfl⟩, by rw [← repL_empty l]; exact h⟩
  | @ref x i q =>
    rcases h with ⟨ws, e, h⟩ | ⟨kvs, e, h⟩
    · obtain ⟨xs, h1, h2⟩ := R.obj i _ _ q e
      exact ⟨_, .inl ⟨_, .of h1, rfl⟩, by rw [← repL_empty h2]; exact h⟩
    · obtain ⟨xs, h1, h2, h3⟩ := R.obj i _ _ q e
      refine ⟨_, .inr (.inr ⟨_, h1, rfl⟩), ?_⟩
      have e : kvs.isEmpty = xs.isEmpty := by
        have := congrArg List.isEmpty h2
        simp only [List.isEmpty_map] at this
        exact this.symm
      rw [← e]
      exact h
  | raw v => exact h.elim
def dTru (da : DE) : DT := fun env S Q => da env S fun w S1 => vTru w S1 fun b => Q b S1
theorem xt_val (ha : XE X a da) (he : ∀ whole, isTrue a X.env whole = (do let v ← whole; standAt a.pos; holding [v] (truthy v)) := by intro _; rfl) : XT X a (dTru da) := by
  obtain ⟨ta, pa, sa⟩ := ha.ex
  refine ⟨_, pt_truth pa he, fun r H S s env Q Q0 R E g k => ?_⟩
  refine sa r H S s env _ _ R E g fun r1 H1 S1 v w e1 R1 p1 d1 => ?_
  obtain ⟨c, h1, h2⟩ := tru_sim R1 p1 d1
  exact ⟨c, h1, k r1 H1 S1 c e1 R1 h2⟩
/-! ### and, or, not, if -/
variable {tA tB : DT} {rest : List Expr}
def dAndT (t u : DT) : DT := fun env S Q => t env S fun c S1 => if c = true then u env S1 Q else Q false S1
def dOrT (t u : DT) : DT := fun env S Q => t env S fun c S1 => if c = true then Q true S1 else u env S1 Q
def dNotT (t : DT) : DT := fun env S Q => t env S fun c S1 => Q (!c) S1
theorem xw_and1 (ha : XT X a tA) : XW X (.BoolOp .And [a] pos) tA := by
  obtain ⟨t, p, s⟩ := ha.ex
  exact ⟨_, pw_and1 p, s⟩
theorem xw_or1 (ha : XT X a tA) : XW X (.BoolOp .Or [a] pos) tA := by
  obtain ⟨t, p, s⟩ := ha.ex
  exact ⟨_, pw_or1 p, s⟩
theorem sim_and {K : Fg} {t u : TT} {d f : DT} (s1 : SimT K t d) (s2 : SimT K u f) : SimT K (tAnd t u) (dAndT d f) := fun r H S s env Q Q0 R E g k =>
  s1 r H S s env _ _ R E g fun r1 H1 S1 c e1 R1 q => by
    cases c with
    | true =>
      rw [if_pos rfl] at q ⊢
      exact s2 r1 H1 S1 s env _ _ R1 (E.mono e1) q fun r2 H2 S2 b e2 => k r2 H2 S2 b (e1.trans e2)
    | false =>
      rw [if_neg Bool.false_ne_true] at q ⊢
      exact k r1 H1 S1 false e1 R1 q
theorem sim_or {K : Fg} {t u : TT} {d f : DT} (s1 : SimT K t d) (s2 : SimT K u f) : SimT K (tOr t u) (dOrT d f) := fun r H S s env Q Q0 R E g k =>
  s1 r H S s env _ _ R E g fun r1 H1 S1 c e1 R1 q => by
    cases c with
    | false =>
      rw [if_neg Bool.false_ne_true] at q ⊢
      exact s2 r1 H1 S1 s env _ _ R1 (E.mono e1) q fun r2 H2 S2 b e2 => k r2 H2 S2 b (e1.trans e2)
    | true =>
      rw [if_pos rfl] at q ⊢
      exact k r1 H1 S1 true e1 R1 q
theorem xw_and (ha : XT X a tA) (hb : XW X (.BoolOp .And (b :: rest) pos) tB) : XW X (.BoolOp .And (a :: b :: rest) pos) (dAndT tA tB) := by
  obtain ⟨t, p, s⟩ := ha.ex
  obtain ⟨t2, p2, s2⟩ := hb.ex
  exact ⟨_, pw_and p p2, sim_and s s2⟩
theorem xw_or (ha : XT X a tA) (hb : XW X (.BoolOp .Or (b :: rest) pos) tB) : XW X (.BoolOp .Or (a :: b :: rest) pos) (dOrT tA tB) := by
  obtain ⟨t, p, s⟩ := ha.ex
  obtain ⟨t2, p2, s2⟩ := hb.ex
  exact ⟨_, pw_or p p2, sim_or s s2⟩
theorem XW.xt (h : XW X e tA) : XT X e tA := by
  obtain ⟨t, p, s⟩ := h.ex
  exact ⟨_, p.pt, s⟩
theorem xt_not (ha : XT X a tA) : XT X (.UnaryOp .Not a pos) (dNotT tA) := by
  obtain ⟨t, p, s⟩ := ha.ex
  exact ⟨_, pt_not p, fun r H S s' env Q Q0 R E g k => s r H S s' env _ _ R E g fun r1 H1 S1 c e1 R1 q => k r1 H1 S1 _ e1 R1 q⟩
/-- and, or, not as values: bools -/
def dAndV (da db : DE) : DE := fun env S Q => da env S fun w S1 => ∃ c, w = .bl c ∧ if c = true then db env S1 Q else Q (.bl false) S1
def dOrV (da db : DE) : DE := fun env S Q => da env S fun w S1 => ∃ c, w = .bl c ∧ if c = true then Q (.bl true) S1 else db env S1 Q
def dNotV (da : DE) : DE := fun env S Q => da env S fun w S1 => ∃ c, w = .bl c ∧ Q (.bl (!c)) S1
theorem xe_one {op} (ha : XE X a da) : XE X (.BoolOp op [a] pos) da := by
  obtain ⟨t, p, s⟩ := ha.ex
  exact ⟨_, pe_one p, s⟩
theorem xe_and (ha : XE X a da) (hb : XE X (.BoolOp .And (b :: rest) pos) db) : XE X (.BoolOp .And (a :: b :: rest) pos) (dAndV da db) := by
  obtain ⟨t, p, s⟩ := ha.ex
  obtain ⟨t2, p2, s2⟩ := hb.ex
  refine ⟨_, pe_and p p2, fun r H S s' env Q Q0 R E g k => ?_⟩
  refine s r H S s' env _ _ R E g fun r1 H1 S1 v w e1 R1 q1 d1 => ?_
  obtain ⟨c, rfl, d1⟩ := d1
  cases q1
  refine ⟨c, rfl, ?_⟩
  cases c with
  | true =>
    rw [if_pos rfl] at d1 ⊢
    exact s2 r1 H1 S1 s' env _ _ R1 (E.mono e1) d1 fun r2 H2 S2 b y e2 => k r2 H2 S2 b y (e1.trans e2)
  | false =>
    rw [if_neg Bool.false_ne_true] at d1 ⊢
    exact k r1 H1 S1 _ _ e1 R1 (.bl false) d1
theorem xe_or (ha : XE X a da) (hb : XE X (.BoolOp .Or (b :: rest) pos) db) : XE X (.BoolOp .Or (a :: b :: rest) pos) (dOrV da db) := by
  obtain ⟨t, p, s⟩ := ha.ex
  obtain ⟨t2, p2, s2⟩ := hb.ex
  refine ⟨_, pe_or p p2, fun r H S s' env Q Q0 R E g k => ?_⟩
  refine s r H S s' env _ _ R E g fun r1 H1 S1 v w e1 R1 q1 d1 => ?_
  obtain ⟨c, rfl, d1⟩ := d1
  cases q1
  refine ⟨c, rfl, ?_⟩
  cases c with
  | false =>
    rw [if_neg Bool.false_ne_true] at d1 ⊢
    exact s2 r1 H1 S1 s' env _ _ R1 (E.mono e1) d1 fun r2 H2 S2 b y e2 => k r2 H2 S2 b y (e1.trans e2)
  | true =>
    rw [if_pos rfl] at d1 ⊢
    exact k r1 H1 S1 _ _ e1 R1 (.bl true) d1
theorem xe_not (ha : XE X a da) : XE X (.UnaryOp .Not a pos) (dNotV da) := by
  obtain ⟨t, p, s⟩ := ha.ex
  refine ⟨_, pe_not p, fun r H S s' env Q Q0 R E g k => ?_⟩
  refine s r H S s' env _ _ R E g fun r1 H1 S1 v w e1 R1 q1 d1 => ?_
  obtain ⟨c, rfl, d1⟩ := d1
  cases q1
  exact ⟨c, rfl, k r1 H1 S1 _ _ e1 R1 (.bl _) d1⟩
def dIf (t : DT) (da db : DE) : DE := fun env S Q => t env S fun c S1 => if c = true then da env S1 Q else db env S1 Q
theorem xe_if {c : Expr} (hc : XT X c tA) (ha : XE X a da) (hb : XE X b db) : XE X (.IfExp c a b pos) (dIf tA da db) := by
  obtain ⟨t, p, s⟩ := hc.ex
  obtain ⟨t1, p1, s1⟩ := ha.ex
  obtain ⟨t2, p2, s2⟩ := hb.ex
  refine ⟨_, pe_ifExp p p1 p2, fun r H S s' env Q Q0 R E g k => ?_⟩
  refine s r H S s' env _ _ R E g fun r1 H1 S1 c e1 R1 d1 => ?_
  cases c with
  | true =>
    rw [if_pos rfl] at d1 ⊢
    exact s1 r1 H1 S1 s' env _ _ R1 (E.mono e1) d1 fun r2 H2 S2 b y e2 => k r2 H2 S2 b y (e1.trans e2)
  | false =>
    rw [if_neg Bool.false_ne_true] at d1 ⊢
    exact s2 r1 H1 S1 s' env _ _ R1 (E.mono e1) d1 fun r2 H2 S2 b y e2 => k r2 H2 S2 b y (e1.trans e2)
/-! ### calls -/
variable {x : Str} {p : Pos} {id T : String}
theorem xe_callB {t : List V → Hp → VK → Prop} {d : List W → Sto → WK → Prop} (hc : CallR X (.builtin id) t) (h : SimC X.K t d) (hg : Gl X x) (hm : X.mg x = none) (hv : bootBuiltins x = some (.builtin id)) (ha : XA X (e :: es) dA) (hn : x ≠ "__name__" := by decide) (hdb : (x == ("__debug__" : Str)) = false := by decide)
    (he : starEach (e :: es) X.env = (false, eval e X.env) :: starEach es X.env := by rfl) (hpl : (backTo pos (starEach es X.env)).any (·.1) = false := by rfl) : XE X (.Call (.Name x p) (e :: es) [] pos) (dCB d dA) := by
  obtain ⟨ta, pa, sa⟩ := ha.ex
  exact ⟨_, pe_callB hc hg hm hv pa hn hdb he hpl, sim_cb h sa⟩
theorem xe_callTy {t : List V → Hp → VK → Prop} {d : List W → Sto → WK → Prop} (hc : CallR X (.type T) t) (h : SimC X.K t d) (hg : Gl X x) (hm : X.mg x = none) (hv : bootBuiltins x = some (.type T)) (ha : XA X (e :: es) dA) (hn : x ≠ "__name__" := by decide) (hdb : (x == ("__debug__" : Str)) = false := by decide)
    (he : starEach (e :: es) X.env = (false, eval e X.env) :: starEach es X.env := by rfl) (hpl : (backTo pos (starEach es X.env)).any (·.1) = false := by rfl) : XE X (.Call (.Name x p) (e :: es) [] pos) (dCB d dA) := by
  obtain ⟨ta, pa, sa⟩ := ha.ex
  exact ⟨_, pe_callTy hc hg hm hv pa hn hdb he hpl, sim_cb h sa⟩
/-- methods of built-in types -/
def vTy (T : String) (w : W) (S : Sto) : Prop := match w with
  | .str _ => T = "str"
  | .ref i => (T = "list" ∧ ∃ ws, S[i]? = some (.lst ws)) ∨ (T = "dict" ∧ ∃ ws, S[i]? = some (.dk ws))
  | .lit _ => T = "list"
  | _ => False
theorem ty_sim {K : Fg} {r : List Addr} {H : Hp} {S : Sto} {v : V} {w : W} (R : RelS K r H S) (p : Rep K r H v w) (h : vTy T w S) : tyV K T v H := by
  cases p with
  | str x => exact h
  | lit q l => exact .inl ⟨h, _, q.1⟩
  | @ref a i q =>
    rcases h with ⟨h, ws, e⟩ | ⟨h, ws, e⟩
    · obtain ⟨xs, h1, _⟩ := R.obj i _ _ q e
      exact .inl ⟨h, _, .of h1⟩
    · obtain ⟨xs, h1, _⟩ := R.obj i _ _ q e
      exact .inr (.inr (.inl ⟨h, .inl ⟨_, h1⟩⟩))
  | _ => exact h.elim
def dBM (T : String) (d : W → List W → Sto → WK → Prop) (da : DE) (dr : DA) : DE := fun env S Q => da env S fun x S1 => vTy T x S1 ∧ dr env S1 fun ws S2 => d x ws S2 Q
def dBM0 (T : String) (d : W → List W → Sto → WK → Prop) (da : DE) : DE := fun env S Q => da env S fun x S1 => vTy T x S1 ∧ d x [] S1 Q
variable {name : Str} {apos cpos : Pos}
theorem xe_bm {t : V → List V → Hp → VK → Prop} {d : W → List W → Sto → WK → Prop} (pa : PlainAttrs T) (slot : Slot T name id) (hty : typeOf (.builtin id) = pure (.type "method_descriptor")) (hm : MtR X id t) (h : SimM X.K t d) (ho : XE X o da) (ha : XA X (e :: es) dA)
    (hbase : attributeBase o name X.env (eval o X.env) = eval o X.env := by rfl)
    (hfew : ((backTo cpos (starEach (e :: es) X.env)).all (fun x => !x.1) && (backToKw cpos (keywordEach [] X.env)).all (fun x => x.1.isSome)
      && decide ((e :: es).length + ([] : List Keyword).length + (if ([] : List Keyword).isEmpty then 0 else 1) < 30)) = true := by rfl)
    (hline : (apos.endLine == cpos.line) = true := by rfl) (hs : starEach (e :: es) X.env = (false, eval e X.env) :: starEach es X.env := by rfl) (hplain : (backTo cpos (starEach es X.env)).any (·.1) = false := by rfl) :
    XE X (.Call (.Attribute o name apos) (e :: es) [] cpos) (dBM T d da dA) := by
  obtain ⟨ta, p1, sa⟩ := ho.ex
  obtain ⟨tr, p2, sr⟩ := ha.ex
  refine ⟨_, pe_bm pa slot hty hm p1 p2 hbase hfew hline hs hplain, fun r H S s env Q Q0 R E g k => ?_⟩
  refine sa r H S s env _ _ R E g fun r1 H1 S1 v w e1 R1 q1 d1 => ⟨ty_sim R1 q1 d1.1, ?_⟩
  refine sr r1 H1 S1 s env _ _ R1 (E.mono e1) d1.2 fun r2 H2 S2 vs ws e2 R2 q2 d2 => ?_
  exact h r2 H2 S2 v vs w ws Q Q0 R2 (q1.mono e2) q2 d2 fun r3 H3 S3 x y e3 => k r3 H3 S3 x y ((e1.trans e2).trans e3)
theorem xe_bm0 {t : V → List V → Hp → VK → Prop} {d : W → List W → Sto → WK → Prop} (pa : PlainAttrs T) (slot : Slot T name id) (hty : typeOf (.builtin id) = pure (.type "method_descriptor")) (hm : MtR X id t) (h : SimM X.K t d) (ho : XE X o da)
    (hbase : attributeBase o name X.env (eval o X.env) = eval o X.env := by rfl) (hline : (apos.endLine == cpos.line) = true := by rfl) : XE X (.Call (.Attribute o name apos) [] [] cpos) (dBM0 T d da) := by
  obtain ⟨ta, p1, sa⟩ := ho.ex
  refine ⟨_, pe_bm0 pa slot hty hm p1 hbase hline, fun r H S s env Q Q0 R E g k => ?_⟩
  refine sa r H S s env _ _ R E g fun r1 H1 S1 v w e1 R1 q1 d1 => ⟨ty_sim R1 q1 d1.1, ?_⟩
  exact h r1 H1 S1 v [] w [] Q Q0 R1 q1 .nil d1.2 fun r3 H3 S3 x y e3 => k r3 H3 S3 x y (e1.trans e3)
/-! ### subscripts, slices -/
theorem xe_ix {t : R2} {d : W → W → Sto → WK → Prop} (hr : IxR X t) (h : SimR X.K t d) (ha : XE X a da) (hb : XE X b db) (hs : PlainIx b := by exact fun _ _ => rfl) : XE X (.Subscript a b pos) (dOp d da db) := by
  obtain ⟨ta, p1, s1⟩ := ha.ex
  obtain ⟨tb, p2, s2⟩ := hb.ex
  exact ⟨_, pe_ix hr p1 p2 hs, sim_op h s1 s2⟩
abbrev DO := Slots → Sto → (Option Int → Sto → Prop) → Prop
def SimO (K : Fg) (t : TO) (d : DO) : Prop := ∀ (r : List Addr) (H : Hp) (S : Sto) (s : L2.St) (env : Slots) (Q : Option Int → Sto → Prop) (Q0 : Option Int → Hp → Prop), RelS K r H S → RepE K r H s env → d env S Q →
  (∀ r' H' S' i, Ext K r H r' H' → RelS K r' H' S' → Q i S' → Q0 i H') → t s H Q0
structure XO (X : Cx) (e : Option Expr) (d : DO) : Prop where
  ex : ∃ t, PO X e t ∧ SimO X.K t d
def oNone : DO := fun _ S Q => Q none S
def oSome (d : DE) : DO := fun env S Q => d env S fun w S1 => ∃ i, w = .int i ∧ Q (some i) S1
theorem xo_none : XO X none oNone := ⟨_, po_none, fun r H S s env Q Q0 R E g k => k r H S none .refl R g⟩
theorem xo_some (ha : XE X a da) : XO X (some a) (oSome da) := by
  obtain ⟨ta, p1, s1⟩ := ha.ex
  refine ⟨_, po_some p1, fun r H S s env Q Q0 R E g k => ?_⟩
  refine s1 r H S s env _ _ R E g fun r1 H1 S1 v w e1 R1 q1 d1 => ?_
  obtain ⟨i, rfl, d1⟩ := d1
  cases q1
  exact ⟨i, rfl, k r1 H1 S1 _ e1 R1 d1⟩
def SimSl (K : Fg) (t : V → Option Int → Option Int → Hp → VK → Prop) (d : W → Option Int → Option Int → Sto → WK → Prop) : Prop := ∀ (r : List Addr) (H : Hp) (S : Sto) (x : V) (wx : W) (lo hi : Option Int) (Q : WK) (Q0 : VK), RelS K r H S → Rep K r H x wx → d wx lo hi S Q →
  (∀ r' H' S' v w, Ext K r H r' H' → RelS K r' H' S' → Rep K r' H' v w → Q w S' → Q0 v H') → t x lo hi H Q0
def dSl (d : W → Option Int → Option Int → Sto → WK → Prop) (da : DE) (dl dh : DO) : DE := fun env S Q => da env S fun x S1 => dl env S1 fun l S2 => dh env S2 fun u S3 => d x l u S3 Q
theorem xe_slice {lo hi : Option Expr} {p2 : Pos} {dl dh : DO} {t : V → Option Int → Option Int → Hp → VK → Prop} {d : W → Option Int → Option Int → Sto → WK → Prop} (hr : SlR X t) (h : SimSl X.K t d) (ha : XE X a da) (hl : XO X lo dl) (hu : XO X hi dh) : XE X (.Subscript a (.Slice lo hi none p2) pos) (dSl d da dl dh) := by
  obtain ⟨ta, p1, s1⟩ := ha.ex
  obtain ⟨tl, q1, u1⟩ := hl.ex
  obtain ⟨th, q2, u2⟩ := hu.ex
  refine ⟨_, pe_slice hr p1 q1 q2, fun r H S s env Q Q0 R E g k => ?_⟩
  refine s1 r H S s env _ _ R E g fun r1 H1 S1 v w e1 R1 z1 d1 => ?_
  refine u1 r1 H1 S1 s env _ _ R1 (E.mono e1) d1 fun r2 H2 S2 i e2 R2 d2 => ?_
  refine u2 r2 H2 S2 s env _ _ R2 (E.mono (e1.trans e2)) d2 fun r3 H3 S3 j e3 R3 d3 => ?_
  exact h r3 H3 S3 v w i j Q Q0 R3 (z1.mono (e2.trans e3)) d3 fun r4 H4 S4 x y e4 => k r4 H4 S4 x y (((e1.trans e2).trans e3).trans e4)
end
end DL

/-! DLc: statements, targets, loops, comprehensions, defs. -/
namespace DL
open PySem PySem.Spec PyProof.Rows L2

section
variable {X : Cx} {pos : Pos} {e : Expr} {es : List Expr} {st : Stmt} {rest body : List Stmt} {t u : DS} {de : DE}
def dNext : DS := fun D env S => D.nx env S
def dSeq (t u : DS) : DS := fun D env S => t { D with nx := u D } env S
def dBreak : DS := fun D env S => D.bk env S
def dCont : DS := fun D env S => D.ct env S
theorem xss_nil : XSs X [] dNext := ⟨_, pss_nil, fun r H S s env D' D R E d k => k.nx r H S s env .refl R E d⟩
theorem xss_cons (h1 : XS X st t) (h2 : XSs X rest u) : XSs X (st :: rest) (dSeq t u) := by
  obtain ⟨t1, p1, s1⟩ := h1.ex
  obtain ⟨t2, p2, s2⟩ := h2.ex
  refine ⟨_, pss_cons p1 p2, fun r H S s env D' D R E d k => ?_⟩
  exact s1 r H S s env _ _ R E d ⟨fun r1 H1 S1 s1' env1 e1 R1 E1 q => s2 r1 H1 S1 s1' env1 D' D R1 E1 q (k.mono e1), k.rt, k.bk, k.ct⟩
theorem xss_one (h1 : XS X st t) : XSs X [st] t := by
  obtain ⟨t1, p1, s1⟩ := h1.ex
  exact ⟨_, pss_one p1, s1⟩
theorem xs_pass : XS X (.Pass pos) dNext := ⟨_, ps_pass, fun r H S s env D' D R E d k => k.nx r H S s env .refl R E d⟩
theorem xs_break : XS X (.Break pos) dBreak := ⟨_, ps_break, fun r H S s env D' D R E d k => k.bk r H S s env .refl R E d⟩
theorem xs_continue : XS X (.Continue pos) dCont := ⟨_, ps_continue, fun r H S s env D' D R E d k => k.ct r H S s env .refl R E d⟩
theorem xs_doc {x j pos'} : XS X (.Expr (.Constant (.str x) j pos) pos') dNext := ⟨_, ps_doc, fun r H S s env D' D R E d k => k.nx r H S s env .refl R E d⟩
def dNever : DS := fun _ _ _ => False
theorem xs_never : XS X st dNever := ⟨_, ps_never, fun _ _ _ _ _ _ _ _ _ d _ => d.elim⟩
theorem xss_never : XSs X body dNever := ⟨_, pss_never, fun _ _ _ _ _ _ _ _ _ d _ => d.elim⟩
def dDrop (d : DE) : DS := fun D env S => d env S fun _ S1 => D.nx env S1
theorem xs_expr (h : XE X e de) (hs : swapsWith e none pos.line X.env = pure false := by rfl) : XS X (.Expr e pos) (dDrop de) := by
  obtain ⟨t1, p1, s1⟩ := h.ex
  refine ⟨_, ps_expr p1 hs, fun r H S s env D' D R E d k => ?_⟩
  exact s1 r H S s env _ _ R E d fun r1 H1 S1 v w e1 R1 q1 d1 => k.nx r1 H1 S1 s env e1 R1 (E.mono e1) d1
def dRet (d : DE) : DS := fun D env S => d env S D.rt
theorem xs_ret (h : XE X e de) : XS X (.Return (some e) pos) (dRet de) := by
  obtain ⟨t1, p1, s1⟩ := h.ex
  refine ⟨_, ps_ret p1, fun r H S s env D' D R E d k => ?_⟩
  exact s1 r H S s env _ _ R E d fun r1 H1 S1 v w e1 R1 q1 d1 => k.rt r1 H1 S1 v w e1 R1 q1 d1
def dRetN : DS := fun D _ S => D.rt .non S
theorem xs_retN : XS X (.Return none pos) dRetN := ⟨_, ps_retN, fun r H S s env D' D R E d k => k.rt r H S _ _ .refl R .non d⟩
def dIfS (c : DT) (t u : DS) : DS := fun D env S => c env S fun b S1 => if b = true then t D env S1 else u D env S1
theorem xs_if {c : Expr} {a b : List Stmt} {dc : DT} (hc : XT X c dc) (ha : XSs X a t) (hb : XSs X b u) : XS X (.If c a b pos) (dIfS dc t u) := by
  obtain ⟨t0, p0, s0⟩ := hc.ex
  obtain ⟨t1, p1, s1⟩ := ha.ex
  obtain ⟨t2, p2, s2⟩ := hb.ex
  refine ⟨_, ps_if p0 p1 p2, fun r H S s env D' D R E d k => ?_⟩
  refine s0 r H S s env _ _ R E d fun r1 H1 S1 c e1 R1 d1 => ?_
  cases c with
  | true =>
    rw [if_pos rfl] at d1 ⊢
    exact s1 r1 H1 S1 s env D' D R1 (E.mono e1) d1 (k.mono e1)
  | false =>
    rw [if_neg Bool.false_ne_true] at d1 ⊢
    exact s2 r1 H1 S1 s env D' D R1 (E.mono e1) d1 (k.mono e1)
/-! ### targets -/
abbrev DGs := List W → Slots → Sto → (Slots → Sto → Prop) → Prop
def SimGs (K : Fg) (t : TGs) (d : DGs) : Prop := ∀ (r : List Addr) (H : Hp) (S : Sto) (s : L2.St) (env : Slots) (vs : List V) (ws : List W) (Q : Slots → Sto → Prop) (Q0 : L2.St → Hp → Prop), RelS K r H S → RepE K r H s env → RepL K r H vs ws → d ws env S Q →
  (∀ r' H' S' s' env', Ext K r H r' H' → RelS K r' H' S' → RepE K r' H' s' env' → Q env' S' → Q0 s' H') → t vs s H Q0
structure XGs (X : Cx) (tg : List Expr) (d : DGs) : Prop where
  ex : ∃ t, PGs X tg t ∧ SimGs X.K t d
def gNm (i : Nat) : DG := fun w env S Q => Q (env.set i (some w)) S
theorem xg_name {x : Str} (i : Nat) (hN : X.N.Nodup) (hi : X.N[i]? = some x := by rfl) (hx : Loc X.env.scope x := by first | exact Or.inl rfl | exact Or.inr rfl) (hf : X.fn x = true ∨ X.env.scope.names.lookup x = some .local := by first | exact .inl rfl | exact .inr rfl) : XG X (.Name x pos) (gNm i) :=
  ⟨_, pg_name hN hi hx hf, fun r H S s env v w Q Q0 R E p d k => k r H S _ _ .refl R (E.set p i) d⟩
def gN0 : DGs := fun ws env S Q => ws = [] ∧ Q env S
def gC (g : DG) (gs : DGs) : DGs := fun ws env S Q => ∃ w ws', ws = w :: ws' ∧ g w env S fun env1 S1 => gs ws' env1 S1 Q
theorem xgs_nil : XGs X [] gN0 := ⟨_, pgs_nil, fun r H S s env vs ws Q Q0 R E p d k => by
  obtain ⟨rfl, d⟩ := d
  cases p
  exact ⟨rfl, k r H S _ _ .refl R E d⟩⟩
theorem xgs_cons {g : DG} {gs : DGs} (h1 : XG X e g) (h2 : XGs X es gs) (hs : (assignEach (e :: es) X.env).map (·.2) = assign e X.env :: (assignEach es X.env).map (·.2) := by rfl) : XGs X (e :: es) (gC g gs) := by
  obtain ⟨t1, p1, s1⟩ := h1.ex
  obtain ⟨t2, p2, s2⟩ := h2.ex
  refine ⟨_, pgs_cons p1 p2 hs, fun r H S s env vs ws Q Q0 R E p d k => ?_⟩
  obtain ⟨w, ws', rfl, d⟩ := d
  cases p with
  | cons q l =>
    refine ⟨_, _, rfl, ?_⟩
    refine s1 r H S s env _ _ _ _ R E q d fun r1 H1 S1 s1' env1 e1 R1 E1 d1 => ?_
    exact s2 r1 H1 S1 s1' env1 _ _ _ _ R1 E1 (l.mono e1) d1 fun r2 H2 S2 x y e2 => k r2 H2 S2 x y (e1.trans e2)
def gTp (n : Nat) (gs : DGs) : DG := fun w env S Q => ∃ ws, w = .tup ws ∧ ws.length = n ∧ gs ws env S Q
theorem xg_tup {k n : Nat} {gs : DGs} (hc : X.calm = true) (h : XGs X es gs) (hn : (assignEach es X.env).length = n := by rfl) (hst : (assignEach es X.env).findIdx? (·.1) = none := by rfl) : XG X (.Tuple es k pos) (gTp n gs) := by
  obtain ⟨t1, p1, s1⟩ := h.ex
  refine ⟨_, pg_tup hc p1 hn hst, fun r H S s env v w Q Q0 R E p d k => ?_⟩
  obtain ⟨ws, rfl, hl, d⟩ := d
  cases p with
  | tup q l =>
    exact ⟨_, _, rfl, q, by rw [l.length]; exact hl, s1 r H S s env _ _ _ _ R E l d k⟩
/-- o[i] = v -/
def SimSet (K : Fg) (t : TSet) (d : W → W → W → Sto → (Sto → Prop) → Prop) : Prop := ∀ (r : List Addr) (H : Hp) (S : Sto) (o i v : V) (wo wi w : W) (Q : Sto → Prop) (Q0 : Hp → Prop), RelS K r H S → Rep K r H o wo → Rep K r H i wi → Rep K r H v w → d wo wi w S Q →
  (∀ r' H' S', Ext K r H r' H' → RelS K r' H' S' → Q S' → Q0 H') → t o i v H Q0
def gSb (do' di : DE) (d : W → W → W → Sto → (Sto → Prop) → Prop) : DG := fun w env S Q => do' env S fun o S1 => di env S1 fun i S2 => d o i w S2 fun S3 => Q env S3
theorem xg_sub {o i : Expr} {d0 d1 : DE} {t : TSet} {d : W → W → W → Sto → (Sto → Prop) → Prop} (hs : PSet X t) (h : SimSet X.K t d) (ho : XE X o d0) (hi : XE X i d1)
    (ha : ∀ v, assign (.Subscript o i pos) X.env v = (do
      let ov ← holding [v] (eval o X.env)
      let iv ← holding [v, ov] (eval i X.env)
      standAt pos
      holding [v, ov, iv] (setItem ov iv v)
      release [v, ov, iv] []) := by intro _; rfl) : XG X (.Subscript o i pos) (gSb d0 d1 d) := by
  obtain ⟨t1, p1, s1⟩ := ho.ex
  obtain ⟨t2, p2, s2⟩ := hi.ex
  refine ⟨_, pg_sub p1 p2 hs ha, fun r H S s env v w Q Q0 R E p g k => ?_⟩
  refine s1 r H S s env _ _ R E g fun r1 H1 S1 x wx e1 R1 q1 g1 => ?_
  refine s2 r1 H1 S1 s env _ _ R1 (E.mono e1) g1 fun r2 H2 S2 y wy e2 R2 q2 g2 => ?_
  exact h r2 H2 S2 x y v wx wy w _ _ R2 (q1.mono e2) q2 (p.mono (e1.trans e2)) g2 fun r3 H3 S3 e3 R3 q3 => k r3 H3 S3 s env ((e1.trans e2).trans e3) R3 (E.mono ((e1.trans e2).trans e3)) q3
def dAsg (d : DE) (g : DG) : DS := fun D env S => d env S fun w S1 => g w env S1 D.nx
theorem sim_asg {K : Fg} {te : TE} {tg : TG} {d : DE} {g : DG} (s1 : Sim K te d) (s2 : SimG K tg g) : SimS K (tAsg te tg) (dAsg d g) := fun r H S s env D' D R E d k =>
  s1 r H S s env _ _ R E d fun r1 H1 S1 v w e1 R1 q1 d1 => s2 r1 H1 S1 s env v w _ _ R1 (E.mono e1) q1 d1 fun r2 H2 S2 s' env' e2 R2 E2 q => k.nx r2 H2 S2 s' env' (e1.trans e2) R2 E2 q
theorem xs_asg {tg : Expr} {g : DG} (he : XE X e de) (hg : XG X tg g) (hs : swapsWithSole [tg] e pos.line X.env = pure false := by rfl) (hw : swappedStores [tg] e X.env = pure none := by rfl)
    (h1 : (assignEach [tg] X.env).map (·.2) = [assign tg X.env] := by rfl) : XS X (.Assign [tg] e pos) (dAsg de g) := by
  obtain ⟨t1, p1, s1⟩ := he.ex
  obtain ⟨t2, p2, s2⟩ := hg.ex
  exact ⟨_, ps_asg p1 p2 hs hw h1, sim_asg s1 s2⟩
theorem xs_set {x : Str} {pos' : Pos} (i : Nat) (hN : X.N.Nodup) (he : XE X e de) (hi : X.N[i]? = some x := by rfl) (hx : Loc X.env.scope x := by first | exact Or.inl rfl | exact Or.inr rfl) (hs : swapsWith e (some (.Name x pos')) pos.line X.env = pure false := by rfl) (hf : X.fn x = true ∨ X.env.scope.names.lookup x = some .local := by first | exact .inl rfl | exact .inr rfl) :
    XS X (.Assign [.Name x pos'] e pos) (dAsg de (gNm i)) := by
  obtain ⟨t1, p1, s1⟩ := he.ex
  exact ⟨_, ps_set hN hi hx p1 hs hf, sim_asg s1 fun r H S s env v w Q Q0 R E p d k => k r H S _ _ .refl R (E.set p i) d⟩
/-- a, b = x, y -/
def dPar (i j : Nat) (da : DA) : DS := fun D env S => da env S fun ws S1 => ∃ v w, ws = [v, w] ∧ D.nx ((env.set i (some v)).set j (some w)) S1
theorem xs_par {x y : Str} {a b : Expr} {da : DA} {px py pt : Pos} {kt k2 pt2} (i j : Nat) (hc : X.calm = true) (hN : X.N.Nodup) (ha : XA X [a, b] da) (hi : X.N[i]? = some x := by rfl) (hj : X.N[j]? = some y := by rfl) (hij : i ≠ j := by decide)
    (hx : X.env.scope.names.lookup x = some .local := by rfl) (hy : X.env.scope.names.lookup y = some .local := by rfl)
    (hw : swappedStores [.Tuple [.Name x px, .Name y py] kt pt] (.Tuple [a, b] k2 pt2) X.env = pure (some [x, y]) := by rfl)
    (hs : swapsWithSole [.Tuple [.Name x px, .Name y py] kt pt] (.Tuple [a, b] k2 pt2) pos.line X.env = pure false := by rfl) :
    XS X (.Assign [.Tuple [.Name x px, .Name y py] kt pt] (.Tuple [a, b] k2 pt2) pos) (dPar i j da) := by
  obtain ⟨t1, p1, s1⟩ := ha.ex
  refine ⟨_, ps_par hc hN hi hj hij hx hy p1 hw hs, fun r H S s env D' D R E d k => ?_⟩
  refine s1 r H S s env _ _ R E d fun r1 H1 S1 vs ws e1 R1 q1 d1 => ?_
  obtain ⟨v, w, rfl, d1⟩ := d1
  cases q1 with
  | cons q l =>
    cases l with
    | cons q' l' =>
      cases l'
      exact ⟨_, _, rfl, k.nx r1 H1 S1 _ _ e1 R1 (((E.mono e1).set q i).set q' j) d1⟩
/-- name op= e -/
def SimIp (K : Fg) (t : TIp) (d : W → W → Sto → WK → Prop) : Prop := SimR K t d
def dAug (i : Nat) (de : DE) (d : W → W → Sto → WK → Prop) : DS := fun D env S => ∃ x, env[i]? = some (some x) ∧ de env S fun y S1 => d x y S1 fun z S2 => D.nx (env.set i (some z)) S2
theorem xs_aug {x : Str} {op : Operator} {t : TIp} {d : W → W → Sto → WK → Prop} {pos' : Pos} (i : Nat) (hN : X.N.Nodup) (ho : PIp X op t) (h : SimR X.K t d) (he : XE X e de) (hi : X.N[i]? = some x := by rfl) (hx : Loc X.env.scope x := by first | exact Or.inl rfl | exact Or.inr rfl)
    (hf : X.fn x = true ∨ X.env.scope.names.lookup x = some .local := by first | exact .inl rfl | exact .inr rfl) : XS X (.AugAssign (.Name x pos') op e pos) (dAug i de d) := by
  obtain ⟨t1, p1, s1⟩ := he.ex
  refine ⟨_, ps_aug hN hi hx p1 ho hf, fun r H S s env D' D R E g k => ?_⟩
  obtain ⟨wx, ex, g⟩ := g
  obtain ⟨v, ev, pv⟩ := E.2 i wx ex
  refine ⟨v, ev, ?_⟩
  refine s1 r H S s env _ _ R E g fun r1 H1 S1 y wy e1 R1 q1 d1 => ?_
  exact h r1 H1 S1 v y wx wy _ _ R1 (pv.mono e1) q1 d1 fun r2 H2 S2 z wz e2 R2 q2 d2 => k.nx r2 H2 S2 _ _ (e1.trans e2) R2 ((E.mono (e1.trans e2)).set q2 i) d2
/-! ### while -/
def dWhile (c : DT) (b : DS) : DS := fun D env S => ∃ W : Nat → Slots → Sto → Prop, (∃ m, W m env S) ∧ ∀ m env S, W m env S →
  c env S fun k S1 => if k = true then b { D with nx := fun e s => ∃ m', m' < m ∧ W m' e s, ct := fun e s => ∃ m', m' < m ∧ W m' e s, bk := D.nx } env S1 else D.nx env S1
theorem xs_while {c : Expr} {dc : DT} (hp : PassesOwn (model X.prog X.w) X.A X.env X.xe) (hc : XT X c dc) (hb : XSs X body t) : XS X (.While c body [] pos) (dWhile dc t) := by
  obtain ⟨t0, p0, s0⟩ := hc.ex
  obtain ⟨t1, p1, s1⟩ := hb.ex
  refine ⟨_, ps_while hp p0 p1, fun r H S s env D' D R E d k => ?_⟩
  obtain ⟨W, ⟨m0, w0⟩, turn⟩ := d
  refine ⟨fun m s H' => ∃ r' S' env', Ext X.K r H r' H' ∧ RelS X.K r' H' S' ∧ RepE X.K r' H' s env' ∧ W m env' S', ⟨m0, r, S, env, .refl, R, E, w0⟩, fun m s1' H1 ⟨r1, S1, env1, e1, R1, E1, w1⟩ => ?_⟩
  refine s0 r1 H1 S1 s1' env1 _ _ R1 E1 (turn m env1 S1 w1) fun r2 H2 S2 b e2 R2 d2 => ?_
  cases b with
  | true =>
    rw [if_pos rfl] at d2 ⊢
    refine ⟨fun s H' => ∃ m', m' < m ∧ ∃ r' S' env', Ext X.K r H r' H' ∧ RelS X.K r' H' S' ∧ RepE X.K r' H' s env' ∧ W m' env' S', fun s' H' h => h, ?_⟩
    refine s1 r2 H2 S2 s1' env1 _ _ R2 (E1.mono e2) d2 ⟨?_, fun r3 H3 S3 v w e3 => k.rt r3 H3 S3 v w ((e1.trans e2).trans e3), fun r3 H3 S3 v w e3 => k.nx r3 H3 S3 v w ((e1.trans e2).trans e3), ?_⟩
    · intro r3 H3 S3 s3 env3 e3 R3 E3 ⟨m', l, w3⟩
      exact ⟨m', l, r3, S3, env3, (e1.trans e2).trans e3, R3, E3, w3⟩
    · intro r3 H3 S3 s3 env3 e3 R3 E3 ⟨m', l, w3⟩
      exact ⟨m', l, r3, S3, env3, (e1.trans e2).trans e3, R3, E3, w3⟩
  | false =>
    rw [if_neg Bool.false_ne_true] at d2 ⊢
    exact k.nx r2 H2 S2 s1' env1 (e1.trans e2) R2 (E1.mono e2) d2
/-! ### what a loop walks -/
structure ItOk (K : Fg) (J : It) (its : List W) (still : Sto → Prop) (r0 : List Addr) (H0 : Hp) : Prop where
  go : ∀ r H S i x, Ext K r0 H0 r H → RelS K r H S → still S → its[i]? = some x → J.go i H ∧ ∀ v H', J.yld i H v H' → Ext K r H r H' ∧ RelS K r H' S ∧ Rep K r H' v x
  stop : ∀ r H S i, Ext K r0 H0 r H → RelS K r H S → still S → its.length ≤ i → J.stop i H
abbrev DI := Slots → Sto → (List W → (Sto → Prop) → Sto → Prop) → Prop
def SimI (K : Fg) (t : TI) (d : DI) : Prop := ∀ (r : List Addr) (H : Hp) (S : Sto) (s : L2.St) (env : Slots) (Q : List W → (Sto → Prop) → Sto → Prop) (Q0 : It → Hp → Prop), RelS K r H S → RepE K r H s env → d env S Q →
  (∀ r' H' S' J its still, Ext K r H r' H' → RelS K r' H' S' → ItOk K J its still r' H' → Q its still S' → Q0 J H') → t s H Q0
structure XI (X : Cx) (tg it : Expr) (d : DI) : Prop where
  ex : ∃ t, PI X tg it t ∧ SimI X.K t d
def forW (g : DG) (b : DS) (still : Sto → Prop) : List W → DS
  | [] => fun D env S => still S ∧ D.nx env S
  | x :: r => fun D env S => still S ∧ g x env S fun env2 S2 => b { D with nx := forW g b still r D, ct := forW g b still r D, bk := D.nx } env2 S2
def dFor (di : DI) (g : DG) (b : DS) : DS := fun D env S => di env S fun its still S1 => forW g b still its D env S1
theorem xs_for {iter tg : Expr} {di : DI} {g : DG} (hp : PassesOwn (model X.prog X.w) X.A X.env X.xe) (hc : X.calm = true) (hi : XI X tg iter di) (hg : XG X tg g) (hb : XSs X body t)
    (hs : ∀ x, foldedSetIterable iter X.env x = pure x := by intro _; rfl) : XS X (.For tg iter body [] pos) (dFor di g t) := by
  obtain ⟨t0, p0, s0⟩ := hi.ex
  obtain ⟨t1, p1, s1⟩ := hg.ex
  obtain ⟨t2, p2, s2⟩ := hb.ex
  refine ⟨_, ps_for hp hc p0 p1 p2 hs, fun r H S s env D' D R E d k => ?_⟩
  refine s0 r H S s env _ _ R E d fun r1 H1 S1 J its still e1 R1 ok d1 => ?_
  refine ⟨fun i m s' H' => i + m = its.length ∧ ∃ r' S' env', Ext X.K r1 H1 r' H' ∧ RelS X.K r' H' S' ∧ RepE X.K r' H' s' env' ∧ forW g t still (its.drop i) D' env' S', ⟨its.length, by omega, r1, S1, env, .refl, R1, E.mono e1, d1⟩, ?_⟩
  rintro i m s' H' ⟨hm, r', S', env', e', R', E', d'⟩
  cases hx : its[i]? with
  | none =>
    have hl : its.length ≤ i := List.getElem?_eq_none_iff.mp hx
    rw [List.drop_of_length_le hl] at d'
    obtain ⟨hst, d'⟩ := d'
    exact .inl ⟨ok.stop r' H' S' i e' R' hst hl, k.nx r' H' S' s' env' (e1.trans e') R' E' d'⟩
  | some x =>
    obtain ⟨hl, ex⟩ := List.getElem?_eq_some_iff.mp hx
    rw [List.drop_eq_getElem_cons hl, ex] at d'
    obtain ⟨hst, d'⟩ := d'
    obtain ⟨go, yl⟩ := ok.go r' H' S' i x e' R' hst hx
    refine .inr ⟨go, fun s3 H3 => ∃ r3 S3 env3, Ext X.K r1 H1 r3 H3 ∧ RelS X.K r3 H3 S3 ∧ RepE X.K r3 H3 s3 env3 ∧ forW g t still (its.drop (i + 1)) D' env3 S3, fun s3 H3 h3 => ⟨m - 1, by omega, by omega, h3⟩, fun v H3 hy => ?_⟩
    obtain ⟨e3, R3, q3⟩ := yl v H3 hy
    refine s1 r' H3 S' s' env' v x _ _ R3 (E'.mono e3) q3 d' fun r4 H4 S4 s4 env4 e4 R4 E4 d4 => ?_
    have e14 := (e'.trans e3).trans e4
    refine s2 r4 H4 S4 s4 env4 _ _ R4 E4 d4 ⟨?_, fun r5 H5 S5 v w e5 => k.rt r5 H5 S5 v w ((e1.trans e14).trans e5), fun r5 H5 S5 v w e5 => k.nx r5 H5 S5 v w ((e1.trans e14).trans e5), ?_⟩
    · intro r5 H5 S5 s5 env5 e5 R5 E5 q5
      exact ⟨r5, S5, env5, e14.trans e5, R5, E5, q5⟩
    · intro r5 H5 S5 s5 env5 e5 R5 E5 q5
      exact ⟨r5, S5, env5, e14.trans e5, R5, E5, q5⟩
/-- a list, a tuple -/
def tSeqI (K : Fg) (tl : TE) : TI := fun s H R => tl s H fun x H1 => ∃ a, x = .ref a ∧ (((∃ xs, SqL K H1 a xs) ∧ R (Itl K a) H1) ∨ ((∃ xs, SqT K H1 a xs) ∧ R (Itt K a) H1))
theorem pi_seq {tg l : Expr} {tl : TE} (hl : PE X l tl) : PI X tg l (tSeqI X.K tl) := by
  refine ⟨fun pins s σ H R I h => ?_⟩
  refine thn (hl.run pins s σ H _ I h) fun v s1 ⟨x, H1, I1, r1, q1⟩ => ?_
  obtain ⟨a, e, q⟩ := q1
  subst e
  cases r1
  rcases q with ⟨⟨xs, hq⟩, q⟩ | ⟨⟨xs, hq⟩, q⟩
  · obtain ⟨its, rv, p, hz⟩ := I1.list hq
    refine wpAny_pyIter_list p.isList ?_
    refine ⟨s1.heap.objs.size, [s1.heap.objs.size], _, _, H1, rfl, I1.kept (t' := s1.toks) fun b o e => Heap.get?_push_of_some _ e, turn_list a _, ⟨_, Heap.get?_push_size _ rfl, rfl, rfl⟩, fun b hb => ?_, q⟩
    have e : b = s1.heap.objs.size := by simpa using hb
    subst e
    exact I1.fpOk (Nat.le_refl _) (I1.hok.fresh (Nat.le_refl _))
  · obtain ⟨its, rv, p, hz⟩ := I1.tuple hq
    refine wpAny_pyIter_tuple (show s1.heap.IsTuple a its.toArray from p) ?_
    refine ⟨s1.heap.objs.size, [s1.heap.objs.size], _, _, H1, rfl, I1.kept (t' := s1.toks) fun b o e => Heap.get?_push_of_some _ e, turn_tuple a _, ⟨_, Heap.get?_push_size _ rfl, rfl, rfl⟩, fun b hb => ?_, q⟩
    have e : b = s1.heap.objs.size := by simpa using hb
    subst e
    exact I1.fpOk (Nat.le_refl _) (I1.hok.fresh (Nat.le_refl _))
def vSeqI (w : W) (S : Sto) (Q : List W → (Sto → Prop) → Sto → Prop) : Prop := match w with
  | .tup ws => Q ws (fun _ => True) S
  | .lit ws => Q ws (fun _ => True) S
  | .ref i => ∃ ws, S[i]? = some (.lst ws) ∧ Q ws (fun S' => S'[i]? = some (.lst ws)) S
  | _ => False
def iSeq (d : DE) : DI := fun env S Q => d env S fun w S1 => vSeqI w S1 Q
theorem seqAt_ok {K : Fg} {r : List Addr} {H : Hp} {S : Sto} {v : V} {w : W} {Q : List W → (Sto → Prop) → Sto → Prop} (R : RelS K r H S) (p : Rep K r H v w) (h : vSeqI w S Q) :
    ∃ a, v = .ref a ∧ ∃ its still, Q its still S ∧ (((∃ xs, SqL K H a xs) ∧ ItOk K (Itl K a) its still r H) ∨ ((∃ xs, SqT K H a xs) ∧ ItOk K (Itt K a) its still r H)) := by
  cases p with
  | @tup a xs ws q l =>
    refine ⟨a, rfl, _, _, h, .inr ⟨⟨_, q⟩, ⟨fun r' H' S' i x e' R' _ hx => ?_, fun r' H' S' i e' R' _ hl => ⟨_, e'.tup _ _ q, by rw [l.length]; exact hl⟩⟩⟩⟩
    obtain ⟨u, hu, pu⟩ := l.get hx
    refine ⟨⟨_, _, e'.tup _ _ q, hu⟩, fun v H3 hy => ?_⟩
    obtain ⟨rfl, f⟩ := hy
    have := Option.some.inj ((f _ (e'.tup _ _ q)).symm.trans hu)
    subst this
    exact ⟨.refl, R', pu.mono e'⟩
  | @lit a xs ws q l =>
    refine ⟨a, rfl, _, _, h, .inl ⟨⟨_, q.1⟩, ⟨fun r' H' S' i x e' R' _ hx => ?_, fun r' H' S' i e' R' _ hl => ⟨_, (q.mono e'.toKp).1, by rw [l.length]; exact hl⟩⟩⟩⟩
    obtain ⟨u, hu, pu⟩ := l.get hx
    refine ⟨⟨_, _, (q.mono e'.toKp).1, hu⟩, fun v H3 hy => ?_⟩
    obtain ⟨rfl, f⟩ := hy
    have := Option.some.inj ((f _ (q.mono e'.toKp).1).symm.trans hu)
    subst this
    exact ⟨.refl, R', pu.mono e'⟩
  | @ref a i q =>
    obtain ⟨ws, hs, h⟩ := h
    obtain ⟨xs, h1, l⟩ := R.obj i a _ q hs
    refine ⟨a, rfl, _, _, h, .inl ⟨⟨_, .of h1⟩, ⟨fun r' H' S' j x e' R' st hx => ?_, fun r' H' S' j e' R' st hl => ?_⟩⟩⟩
    · obtain ⟨ys, h2, l2⟩ := R'.obj i a _ (e'.pre _ _ q) st
      obtain ⟨u, hu, pu⟩ := l2.get hx
      refine ⟨⟨_, _, .of h2, hu⟩, fun v H3 hy => ?_⟩
      obtain ⟨rfl, f⟩ := hy
      have := Option.some.inj ((f _ (.of h2)).symm.trans hu)
      subst this
      exact ⟨.refl, R', pu⟩
    · obtain ⟨ys, h2, l2⟩ := R'.obj i a _ (e'.pre _ _ q) st
      exact ⟨_, .of h2, by rw [l2.length]; exact hl⟩
  | _ => exact h.elim
theorem xi_seq {tg l : Expr} {d : DE} (h : XE X l d) : XI X tg l (iSeq d) := by
  obtain ⟨t, p, s⟩ := h.ex
  refine ⟨_, pi_seq p, fun r H S st env Q Q0 R E g k => ?_⟩
  refine s r H S st env _ _ R E g fun r1 H1 S1 v w e1 R1 q1 d1 => ?_
  obtain ⟨a, rfl, its, still, q, h⟩ := seqAt_ok R1 q1 d1
  refine ⟨a, rfl, ?_⟩
  rcases h with ⟨hx, ok⟩ | ⟨hx, ok⟩
  · exact .inl ⟨hx, k r1 H1 S1 _ its still e1 R1 ok q⟩
  · exact .inr ⟨hx, k r1 H1 S1 _ its still e1 R1 ok q⟩
/-- range -/
def rngW (lo : Int) (n : Nat) : List W := (List.range n).map fun (i : Nat) => W.int (lo + (i : Int))
theorem rng_ok {K : Fg} {lo : Int} {n : Nat} {r : List Addr} {H : Hp} : ItOk K (Itr lo n) (rngW lo n) (fun _ => True) r H := by
  refine ⟨fun r' H' S' i x e R _ hx => ?_, fun r' H' S' i e R _ hl => ?_⟩
  · unfold rngW at hx
    rw [List.getElem?_map] at hx
    by_cases hi : i < n
    · rw [List.getElem?_range hi] at hx
      have e2 : W.int (lo + (i : Int)) = x := Option.some.inj hx
      subst e2
      refine ⟨hi, fun v H3 hy => ?_⟩
      obtain ⟨rfl, rfl⟩ := hy
      exact ⟨.refl, R, .int _⟩
    · rw [List.getElem?_eq_none (by rw [List.length_range]; omega)] at hx
      cases hx
  · unfold rngW at hl
    rw [List.length_map, List.length_range] at hl
    exact hl
def iRng1 (da : DA) : DI := fun env S Q => da env S fun ws S1 => ∃ j : Int, ws = [.int j] ∧ -(2 ^ 62) ≤ j ∧ j < 2 ^ 62 ∧ Q (rngW 0 j.toNat) (fun _ => True) S1
def iRng2 (da : DA) : DI := fun env S Q => da env S fun ws S1 => ∃ i j : Int, ws = [.int i, .int j] ∧ (-(2 ^ 62) ≤ i ∧ i < 2 ^ 62 ∧ -(2 ^ 62) ≤ j ∧ j < 2 ^ 62) ∧ Q (rngW i (j - i).toNat) (fun _ => True) S1
theorem xi_range1 {tg a : Expr} {da : DA} {p : Pos} (hg : Gl X "range") (hm : X.mg "range" = none) (ha : XA X [a] da) (hs : starEach [a] X.env = [(false, eval a X.env)] := by rfl) : XI X tg (.Call (.Name "range" p) [a] [] pos) (iRng1 da) := by
  obtain ⟨t, p, s⟩ := ha.ex
  refine ⟨_, pi_range1 hg hm p hs, fun r H S st env Q Q0 R E g k => ?_⟩
  refine s r H S st env _ _ R E g fun r1 H1 S1 vs ws e1 R1 q1 d1 => ?_
  obtain ⟨j, rfl, h1, h2, q⟩ := d1
  cases q1 with
  | cons a b =>
    cases b
    cases a
    exact ⟨j, rfl, h1, h2, k r1 H1 S1 _ _ _ e1 R1 rng_ok q⟩
theorem xi_range2 {tg a b : Expr} {da : DA} {p : Pos} (hg : Gl X "range") (hm : X.mg "range" = none) (ha : XA X [a, b] da) (hs : starEach [a, b] X.env = [(false, eval a X.env), (false, eval b X.env)] := by rfl) (hs2 : starEach [b] X.env = [(false, eval b X.env)] := by rfl) : XI X tg (.Call (.Name "range" p) [a, b] [] pos) (iRng2 da) := by
  obtain ⟨t, p, s⟩ := ha.ex
  refine ⟨_, pi_range2 hg hm p hs hs2, fun r H S st env Q Q0 R E g k => ?_⟩
  refine s r H S st env _ _ R E g fun r1 H1 S1 vs ws e1 R1 q1 d1 => ?_
  obtain ⟨i, j, rfl, h1, q⟩ := d1
  cases q1 with
  | cons a b =>
    cases b with
    | cons b c =>
      cases c
      cases a
      cases b
      exact ⟨i, j, rfl, h1, k r1 H1 S1 _ _ _ e1 R1 rng_ok q⟩
/-! ### list comprehensions -/
/-- a comprehension's target: it stores its own slots alone -/
def OwnG (t : TG) (vs : List Nat) : Prop := ∀ v s H (Q Q0 : L2.St → Hp → Prop) s0, wipe s vs = wipe s0 vs → t v s H Q → (∀ s2 H2, wipe s2 vs = wipe s0 vs → Q s2 H2 → Q0 s2 H2) → t v s H Q0
def OwnGs (t : TGs) (vs : List Nat) : Prop := ∀ v s H (Q Q0 : L2.St → Hp → Prop) s0, wipe s vs = wipe s0 vs → t v s H Q → (∀ s2 H2, wipe s2 vs = wipe s0 vs → Q s2 H2 → Q0 s2 H2) → t v s H Q0
theorem wipe_set {s : L2.St} {i : Nat} {x : Option V} : ∀ {vs : List Nat}, i ∈ vs → wipe (s.set i x) vs = wipe s vs
  | v :: vs, h => by
    unfold wipe
    by_cases hv : i ∈ vs
    · rw [wipe_set hv]
    · have e : i = v := by
        rcases List.mem_cons.mp h with e | m
        · exact e
        · exact (hv m).elim
      subst e
      rw [wipe_comm hv, List.set_set]
where wipe_comm {s : L2.St} {i : Nat} {x : Option V} : ∀ {vs : List Nat}, i ∉ vs → wipe (s.set i x) vs = (wipe s vs).set i x
  | [], _ => rfl
  | v :: vs, h => by
    unfold wipe
    rw [wipe_comm (fun m => h (List.mem_cons_of_mem _ m)), List.set_comm]
    intro e
    exact h (by rw [e]; exact List.mem_cons_self)
structure XCG (X : Cx) (vs : List Nat) (tg : Expr) (t : TG) (d : DG) : Prop where
  pg : PG X tg t
  sm : SimG X.K t d
  ow : OwnG t vs
structure XCGs (X : Cx) (vs : List Nat) (tg : List Expr) (t : TGs) (d : DGs) : Prop where
  pg : PGs X tg t
  sm : SimGs X.K t d
  ow : OwnGs t vs
theorem xcg_name {x : Str} {vs : List Nat} (i : Nat) (hN : X.N.Nodup) (hm : i ∈ vs := by decide) (hi : X.N[i]? = some x := by rfl) (hx : Loc X.env.scope x := by first | exact Or.inl rfl | exact Or.inr rfl) (hf : X.fn x = true ∨ X.env.scope.names.lookup x = some .local := by first | exact .inl rfl | exact .inr rfl) : XCG X vs (.Name x pos) (gName i) (gNm i) :=
  ⟨pg_name hN hi hx hf, fun r H S s env v w Q Q0 R E p d k => k r H S _ _ .refl R (E.set p i) d, fun v s H Q Q0 s0 e h k => k _ _ ((wipe_set hm).trans e) h⟩
theorem xcgs_nil {vs : List Nat} : XCGs X vs [] gNil gN0 := ⟨pgs_nil, fun r H S s env vs ws Q Q0 R E p d k => by
  obtain ⟨rfl, d⟩ := d
  cases p
  exact ⟨rfl, k r H S _ _ .refl R E d⟩, fun v s H Q Q0 s0 e h k => ⟨h.1, k _ _ e h.2⟩⟩
theorem xcgs_cons {vs : List Nat} {t : TG} {ts : TGs} {g : DG} {gs : DGs} (h1 : XCG X vs e t g) (h2 : XCGs X vs es ts gs) (hs : (assignEach (e :: es) X.env).map (·.2) = assign e X.env :: (assignEach es X.env).map (·.2) := by rfl) : XCGs X vs (e :: es) (gCons t ts) (gC g gs) := by
  obtain ⟨p1, s1, o1⟩ := h1
  obtain ⟨p2, s2, o2⟩ := h2
  refine ⟨pgs_cons p1 p2 hs, fun r H S s env vs ws Q Q0 R E p d k => ?_, fun v s H Q Q0 s0 ew h k => ?_⟩
  · obtain ⟨w, ws', rfl, d⟩ := d
    cases p with
    | cons q l =>
      refine ⟨_, _, rfl, ?_⟩
      refine s1 r H S s env _ _ _ _ R E q d fun r1 H1 S1 s1' env1 e1 R1 E1 d1 => ?_
      exact s2 r1 H1 S1 s1' env1 _ _ _ _ R1 E1 (l.mono e1) d1 fun r2 H2 S2 x y e2 => k r2 H2 S2 x y (e1.trans e2)
  · obtain ⟨x, xs, rfl, h⟩ := h
    exact ⟨x, xs, rfl, o1 x s H _ _ s0 ew h fun s2 H2 e2 h2 => o2 xs s2 H2 _ _ s0 e2 h2 k⟩
theorem xcg_tup {vs : List Nat} {k n : Nat} {ts : TGs} {gs : DGs} (hc : X.calm = true) (h : XCGs X vs es ts gs) (hn : (assignEach es X.env).length = n := by rfl) (hst : (assignEach es X.env).findIdx? (·.1) = none := by rfl) : XCG X vs (.Tuple es k pos) (gTup X.K n ts) (gTp n gs) := by
  obtain ⟨p1, s1, o1⟩ := h
  refine ⟨pg_tup hc p1 hn hst, fun r H S s env v w Q Q0 R E p d k => ?_, fun v s H Q Q0 s0 ew h k => ?_⟩
  · obtain ⟨ws, rfl, hl, d⟩ := d
    cases p with
    | tup q l =>
      exact ⟨_, _, rfl, q, by rw [l.length]; exact hl, s1 r H S s env _ _ _ _ R E l d k⟩
  · obtain ⟨a, xs, rfl, q, hl, h⟩ := h
    exact ⟨a, xs, rfl, q, hl, o1 xs s H _ _ s0 ew h k⟩
theorem wipe_wipe {s : L2.St} {vs : List Nat} : wipe (wipe s vs) vs = wipe s vs := by
  have h : ∀ us : List Nat, (∀ u ∈ us, u ∈ vs) → wipe (wipe s us) vs = wipe s vs := by
    intro us
    induction us with
    | nil => intro _; rfl
    | cons u us ih =>
      intro hu
      show wipe ((wipe s us).set u none) vs = _
      rw [wipe_set (hu u List.mem_cons_self)]
      exact ih fun w hw => hu w (List.mem_cons_of_mem _ hw)
  exact h vs fun _ hu => hu
def compW (g : DG) (tt : DT) (te : DE) (vs : List Nat) (still : Sto → Prop) (env : Slots) (Q : WK) : List W → List W → Sto → Prop
  | [], acc, S => still S ∧ Q (.ref S.length) (S ++ [.lst acc])
  | x :: r, acc, S => still S ∧ g x (wipeW env vs) S fun env2 S2 => tt env2 S2 fun b S3 => if b = true then te env2 S3 fun y S4 => acc.length < sizeLine ∧ compW g tt te vs still env Q r (acc ++ [y]) S4 else compW g tt te vs still env Q r acc S3
def dComp (di : DI) (g : DG) (tt : DT) (te : DE) (vs : List Nat) : DE := fun env S Q => di env S fun its still S1 => compW g tt te vs still env Q its [] S1
theorem sim_comp {K : Fg} {wi : TI} {tg : TG} {tt : TT} {te : TE} {di : DI} {g : DG} {dt : DT} {de : DE} {vs : List Nat} (si : SimI K wi di) (sg : SimG K tg g) (og : OwnG tg vs) (st : SimT K tt dt) (se : Sim K te de) : Sim K (tLc wi tg tt te vs) (dComp di g dt de vs) := by
  intro r H S s env Q Q0 R E d k
  refine si r H S s env _ _ R E d fun r1 H1 S1 J its still e1 R1 ok d1 => ?_
  intro Dl hD
  have nD := R1.notin hD
  refine ⟨fun i m H' => i + m = its.length ∧ ∃ r' S' acc accv, Ext K r1 H1 r' H' ∧ RelS K r' H' S' ∧ Dl ∉ r' ∧ H' Dl = some (.lst accv) ∧ RepL K r' H' accv acc ∧ compW g dt de vs still env Q (its.drop i) acc S',
    ⟨its.length, by omega, r1, S1, [], [], ext_new hD, rel_new R1 hD, nD, upd_same, .nil, d1⟩, ?_⟩
  rintro i m H' ⟨hm, r', S', acc, accv, e', R', n', hl, ra, d'⟩
  cases hx : its[i]? with
  | none =>
    have hle : its.length ≤ i := List.getElem?_eq_none_iff.mp hx
    rw [List.drop_of_length_le hle] at d'
    obtain ⟨hst, d'⟩ := d'
    exact .inl ⟨ok.stop r' H' S' i e' R' hst hle, k _ H' _ _ _ (e1.trans (e'.join hD)) (R'.join n' hl ra) (rep_mem R') d'⟩
  | some x =>
    obtain ⟨hlt, ex⟩ := List.getElem?_eq_some_iff.mp hx
    rw [List.drop_eq_getElem_cons hlt, ex] at d'
    obtain ⟨hst, d'⟩ := d'
    obtain ⟨go, yl⟩ := ok.go r' H' S' i x e' R' hst hx
    refine .inr ⟨go, fun H3 => ∃ r' S' acc accv, Ext K r1 H1 r' H3 ∧ RelS K r' H3 S' ∧ Dl ∉ r' ∧ H3 Dl = some (.lst accv) ∧ RepL K r' H3 accv acc ∧ compW g dt de vs still env Q (its.drop (i + 1)) acc S', fun H3 h3 => ⟨m - 1, by omega, by omega, h3⟩, fun v H3 hy => ?_⟩
    obtain ⟨e3, R3, q3⟩ := yl v H3 hy
    have e13 := e'.trans e3
    obtain ⟨n3, hl3⟩ := e3.apart n' hl
    have E3 := (E.mono (e1.trans e13)).wipe vs
    refine og v (wipe s vs) H3 _ _ (wipe s vs) rfl (sg r' H3 S' (wipe s vs) (wipeW env vs) v x _ (fun s4 H4 => ∃ r4 S4 env4, Ext K r' H3 r4 H4 ∧ RelS K r4 H4 S4 ∧ RepE K r4 H4 s4 env4 ∧ dt env4 S4 fun b S5 => if b = true then de env4 S5 fun y S6 => acc.length < sizeLine ∧ compW g dt de vs still env Q (its.drop (i + 1)) (acc ++ [y]) S6 else compW g dt de vs still env Q (its.drop (i + 1)) acc S5) R3 E3 q3 d' fun r4 H4 S4 s4 env4 e4 R4 E4 d4 => ⟨r4, S4, env4, e4, R4, E4, d4⟩) fun s4 H4 hw h4 => ?_
    obtain ⟨r4, S4, env4, e4, R4, E4, d4⟩ := h4
    refine ⟨by rw [hw, wipe_wipe], ?_⟩
    refine st r4 H4 S4 s4 env4 _ _ R4 E4 d4 fun r5 H5 S5 b e5 R5 d5 => ?_
    have e15 := (e13.trans e4).trans e5
    have e35 := e4.trans e5
    obtain ⟨n5, hl5⟩ := e35.apart n3 hl3
    cases b with
    | true =>
      rw [if_pos rfl] at d5 ⊢
      refine se r5 H5 S5 s4 env4 _ _ R5 (E4.mono e5) d5 fun r6 H6 S6 y w e6 R6 q6 d6 => ?_
      obtain ⟨n6, hl6⟩ := e6.apart n5 hl5
      have ra6 := ra.mono ((e3.trans e35).trans e6)
      refine ⟨accv, hl6, by rw [ra6.length]; exact d6.1, r6, S6, acc ++ [w], accv ++ [y], (e15.trans e6).hid hD hl6 trivial, R6.hid n6 hl6 trivial, n6, upd_same, ?_, d6.2⟩
      exact (ra6.app (.one q6)).mono' (Kp.hid hl6 trivial)
    | false =>
      rw [if_neg Bool.false_ne_true] at d5 ⊢
      exact ⟨r5, S5, acc, accv, e15, R5, n5, hl5, ra.mono (e3.trans e35), d5⟩
/-! a reading that hangs on K alone -/
def canE (K : Fg) (d : DE) : TE := fun s H Q0 => ∃ (r : List Addr) (S : Sto) (env : Slots) (Q : WK), RelS K r H S ∧ RepE K r H s env ∧ d env S Q ∧ ∀ r' H' S' v w, Ext K r H r' H' → RelS K r' H' S' → Rep K r' H' v w → Q w S' → Q0 v H'
def canT (K : Fg) (d : DT) : TT := fun s H Q0 => ∃ (r : List Addr) (S : Sto) (env : Slots) (Q : Bool → Sto → Prop), RelS K r H S ∧ RepE K r H s env ∧ d env S Q ∧ ∀ r' H' S' b, Ext K r H r' H' → RelS K r' H' S' → Q b S' → Q0 b H'
theorem canE_sim {K : Fg} {d : DE} : Sim K (canE K d) d := fun r H S s env Q Q0 R E h k => ⟨r, S, env, Q, R, E, h, k⟩
theorem canT_sim {K : Fg} {d : DT} : SimT K (canT K d) d := fun r H S s env Q Q0 R E h k => ⟨r, S, env, Q, R, E, h, k⟩
theorem XE.pe {d : DE} (h : XE X e d) : PE X e (canE X.K d) := by
  obtain ⟨t, p, s⟩ := h.ex
  exact ⟨fun pins st σ H Q I ⟨r, S, env, Q', R, E, hd, k⟩ => p.run pins st σ H Q I (s r H S σ env Q' Q R E hd k)⟩
structure XTs (X : Cx) (ifs : List Expr) (d : DT) : Prop where
  ex : ∃ tt, PTs X ifs tt ∧ SimT X.K tt d
def dYes : DT := fun _ S Q => Q true S
theorem xts_nil : XTs X [] dYes := ⟨_, pts_nil, fun r H S s env Q Q0 R E d k => k r H S true .refl R d⟩
theorem xts_one {c : Expr} {d : DT} (h : XT X c d) : XTs X [c] d := by
  obtain ⟨t, p, s⟩ := h.ex
  exact ⟨_, pts_one p, s⟩
theorem XTs.pt {ifs : List Expr} {d : DT} (h : XTs X ifs d) : PTs X ifs (canT X.K d) := by
  obtain ⟨t, p, s⟩ := h.ex
  exact ⟨fun pins st σ H Q I ⟨r, S, env, Q', R, E, hd, k⟩ => p.run pins st σ H Q I (s r H S σ env Q' Q R E hd k)⟩
end
section
variable {X : Cx} {pos : Pos}
theorem xe_comp {elt tg iter : Expr} {ifs : List Expr} {scope : Scope} {di : DI} {t : TG} {g : DG} {dt : DT} {de : DE} (own : List (Str × Nat)) (hc : X.calm = true) (hN : X.N.Nodup) (hi : XI X tg iter di) (ok : BlkOk X.N X.env.scope scope own)
    (hg : ∀ (s : Shared) (H : Hp) (C : Addr) (cl : List (Str × Addr)) (fp : List Addr), XCG (X.blk s H scope (compEnvC scope cl C X.env) fp) (own.map (·.2)) tg t g)
    (ht : ∀ (s : Shared) (H : Hp) (C : Addr) (cl : List (Str × Addr)) (fp : List Addr), XTs (X.blk s H scope (compEnvC scope cl C X.env) fp) ifs dt)
    (he : ∀ (s : Shared) (H : Hp) (C : Addr) (cl : List (Str × Addr)) (fp : List Addr), XE (X.blk s H scope (compEnvC scope cl C X.env) fp) elt de)
    (hs : ∀ x, foldedSetIterable iter X.env x = pure x := by intro _; rfl) : XE X (.ListComp elt [⟨tg, iter, ifs, 0⟩] scope pos) (dComp di g dt de (own.map (·.2))) := by
  obtain ⟨wi, p, si⟩ := hi.ex
  have g0 := hg {} (fun _ => none) 0 [] []
  exact ⟨_, pe_lc hc hN p ok (fun s H C cl fp => (hg s H C cl fp).pg) (fun s H C cl fp => (ht s H C cl fp).pt) (fun s H C cl fp => (he s H C cl fp).pe) hs, sim_comp si g0.sm g0.ow canT_sim canE_sim⟩
theorem xs_setComp {y : Str} {py spos : Pos} {elt tg iter : Expr} {ifs : List Expr} {scope : Scope} {di : DI} {t : TG} {g : DG} {dt : DT} {de : DE} (i : Nat) (own : List (Str × Nat)) (hc : X.calm = true) (hN : X.N.Nodup) (hi : XI X tg iter di) (ok : BlkOk X.N X.env.scope scope own)
    (hg : ∀ (s : Shared) (H : Hp) (C : Addr) (cl : List (Str × Addr)) (fp : List Addr), XCG (X.blk s H scope (compEnvC scope cl C X.env) fp) (own.map (·.2)) tg t g)
    (ht : ∀ (s : Shared) (H : Hp) (C : Addr) (cl : List (Str × Addr)) (fp : List Addr), XTs (X.blk s H scope (compEnvC scope cl C X.env) fp) ifs dt)
    (he : ∀ (s : Shared) (H : Hp) (C : Addr) (cl : List (Str × Addr)) (fp : List Addr), XE (X.blk s H scope (compEnvC scope cl C X.env) fp) elt de)
    (hsw : swapsWith (.ListComp elt [⟨tg, iter, ifs, 0⟩] scope pos) (some (.Name y py)) spos.line X.env = pure true) (hy : X.N[i]? = some y := by rfl) (hyl : X.env.scope.names.lookup y = some .local := by rfl) (hs : ∀ x, foldedSetIterable iter X.env x = pure x := by intro _; rfl) :
    XS X (.Assign [.Name y py] (.ListComp elt [⟨tg, iter, ifs, 0⟩] scope pos) spos) (dAsg (dComp di g dt de (own.map (·.2))) (gNm i)) := by
  obtain ⟨wi, p, si⟩ := hi.ex
  have g0 := hg {} (fun _ => none) 0 [] []
  exact ⟨_, ps_setLc hc hN hy hyl hsw p ok (fun s H C cl fp => (hg s H C cl fp).pg) (fun s H C cl fp => (ht s H C cl fp).pt) (fun s H C cl fp => (he s H C cl fp).pe) hs, sim_asg (sim_comp si g0.sm g0.ow canT_sim canE_sim) fun r H S s env v w Q Q0 R E p d k => k r H S _ _ .refl R (E.set p i) d⟩
/-! ### defs -/
abbrev DSpec := List W → Sto → WK → Prop
def spOf (K : Fg) (F : DSpec) : Sp := fun vs H Q _ => ∃ (r : List Addr) (S : Sto) (ws : List W) (Q' : WK), RelS K r H S ∧ RepL K r H vs ws ∧ F ws S Q' ∧ ∀ r' H' S' v w, Ext K r H r' H' → RelS K r' H' S' → Rep K r' H' v w → Q' w S' → Q v H'
def dCall (F : DSpec) (da : DA) : DE := fun env S Q => da env S fun ws S1 => F ws S1 Q
theorem sim_call {K : Fg} {F : DSpec} {ta : TA} {da : DA} (sa : SimA K ta da) : Sim K (tCall (spOf K F) [] E0 ta) (dCall F da) := fun r H S s env Q Q0 R E d k =>
  sa r H S s env _ _ R E d fun r1 H1 S1 vs ws e1 R1 q1 d1 => ⟨r1, S1, ws, Q, R1, by rw [List.append_nil]; exact q1, d1, fun r2 H2 S2 v w e2 => k r2 H2 S2 v w (e1.trans e2)⟩
theorem xe_call {x : Str} {p : Pos} {e : Expr} {es : List Expr} {da : DA} {k : Nat} {f : Addr} {fd : FuncData} {ps : List Str} {F : DSpec} (G : FnOk X.prog X.w X.K X.mg X.base CX0 k f fd ps (spOf X.K F)) (hr : Room k X.A) (hg : Gl X x) (hm : X.mg x = some (.ref f)) (hk : PySem.W.keepIn X.K (.ref f) = true) (hb : Binds X.K fd ps [])
    (ha : XA X (e :: es) da) (hdb : (x == ("__debug__" : Str)) = false := by decide) (he : starEach (e :: es) X.env = (false, eval e X.env) :: starEach es X.env := by rfl) (hpl : (backTo pos (starEach es X.env)).any (·.1) = false := by rfl) :
    XE X (.Call (.Name x p) (e :: es) [] pos) (dCall F da) := by
  obtain ⟨t, pa, sa⟩ := ha.ex
  exact ⟨_, pe_call G hr hg hm hk hb .nil pass0 pa hdb he hpl, sim_call sa⟩
theorem xe_call0 {x : Str} {p : Pos} {k : Nat} {f : Addr} {fd : FuncData} {ps : List Str} {F : DSpec} (G : FnOk X.prog X.w X.K X.mg X.base CX0 k f fd ps (spOf X.K F)) (hr : Room k X.A) (hg : Gl X x) (hm : X.mg x = some (.ref f)) (hk : PySem.W.keepIn X.K (.ref f) = true) (hb : Binds X.K fd ps [])
    (hdb : (x == ("__debug__" : Str)) = false := by decide) : XE X (.Call (.Name x p) [] [] pos) (dCall F aNil) :=
  ⟨_, pe_call0 G hr hg hm hk hb .nil pass0 hdb, sim_call fun r H S s env Q Q0 R E d k => k r H S [] [] .refl R .nil d⟩
end
/-- the slots at the entry -/
def startW (n : Nat) (ws : List W) : Slots := ws.map some ++ List.replicate (n - ws.length) none
mutual
def W.bnd (n : Nat) : W → Bool
  | .tup ws => W.bndL n ws
  | .lit ws => W.bndL n ws
  | .ref i => decide (i < n)
  | _ => true
def W.bndL (n : Nat) : List W → Bool
  | [] => true
  | w :: ws => w.bnd n && W.bndL n ws
end
def O.bnd (n : Nat) : O → Bool
  | .lst ws => W.bndL n ws
  | .dk kvs => W.bndL n (kvs.map (·.2))
/-- every reference leads into the store -/
def Closed (S : Sto) : Prop := ∀ (i : Nat) (o : O), S[i]? = some o → o.bnd S.length = true
section
variable {K : Fg} {r : List Addr} {H : Hp} {S : Sto}
mutual
theorem Rep.bnd (R : RelS K r H S) : ∀ {v : V} {w : W}, Rep K r H v w → w.bnd S.length = true
  | _, _, .non => rfl
  | _, _, .bl b => rfl
  | _, _, .int i => rfl
  | _, _, .str x => rfl
  | _, _, .tup h l => by
    show W.bndL _ _ = true
    exact RepL.bnd R l
  | _, _, .lit h l => by
    show W.bndL _ _ = true
    exact RepL.bnd R l
  | _, _, .ref h => by
    show decide _ = true
    exact decide_eq_true (R.lt h)
  | _, _, .raw v => rfl
theorem RepL.bnd (R : RelS K r H S) : ∀ {vs : List V} {ws : List W}, RepL K r H vs ws → W.bndL S.length ws = true
  | _, _, .nil => rfl
  | _, _, .cons h l => by
    show (W.bnd _ _ && W.bndL _ _) = true
    rw [Rep.bnd R h, RepL.bnd R l]
    rfl
end
theorem RelS.closed (R : RelS K r H S) : Closed S := fun i o h => by
  obtain ⟨a, _, x⟩ := R.at h
  cases o with
  | lst ws =>
    obtain ⟨xs, _, l⟩ := x
    exact l.bnd R
  | dk kvs =>
    obtain ⟨xs, _, _, l⟩ := x
    exact l.bnd R
end
mutual
def W.ren (f : List Nat) : W → W
  | .tup ws => .tup (W.renL f ws)
  | .lit ws => .lit (W.renL f ws)
  | .ref i => .ref (f.getD i 0)
  | w => w
def W.renL (f : List Nat) : List W → List W
  | [] => []
  | w :: ws => w.ren f :: W.renL f ws
end
def O.ren (f : List Nat) : O → O
  | .lst ws => .lst (W.renL f ws)
  | .dk kvs => .dk (kvs.map fun kv => (kv.1, kv.2.ren f))
theorem renL_map (f : List Nat) : ∀ ws : List W, W.renL f ws = ws.map (W.ren f)
  | [] => rfl
  | w :: ws => congrArg _ (renL_map f ws)
section
variable {K : Fg} {r : List Addr} {H : Hp} {S : Sto} {f : List Nat}
def pickA (f : List Nat) (r : List Addr) : List Addr := f.map fun i => r.getD i 0
theorem pickA_get (hf : ∀ j ∈ f, j < r.length) {i j : Nat} (h : f[i]? = some j) : (pickA f r)[i]? = r[j]? := by
  have hj := hf j (List.mem_of_getElem? h)
  unfold pickA
  rw [List.getElem?_map, h]
  show some (r.getD j 0) = _
  rw [List.getD_eq_getElem?_getD, List.getElem?_eq_getElem hj]
  rfl
mutual
theorem Rep.unren (hf : ∀ j ∈ f, j < r.length) : ∀ (w : W) {v : V}, Rep K r H v (w.ren f) → w.bnd f.length = true → Rep K (pickA f r) H v w
  | .non, _, h, _ => by cases h; exact .non
  | .bl b, _, h, _ => by cases h; exact .bl b
  | .int i, _, h, _ => by cases h; exact .int i
  | .str x, _, h, _ => by cases h; exact .str x
  | .raw v, _, h, _ => by cases h; exact .raw v
  | .ref i, _, h, b => by
    have hi : i < f.length := of_decide_eq_true b
    have h' : Rep K r H _ (.ref (f.getD i 0)) := h
    rw [List.getD_eq_getElem?_getD, List.getElem?_eq_getElem hi] at h'
    cases h' with
    | ref q => exact .ref (by rw [pickA_get hf (List.getElem?_eq_getElem hi)]; exact q)
  | .tup ws, _, h, b => by
    cases h with
    | tup q l => exact .tup q (RepL.unren hf ws l b)
  | .lit ws, _, h, b => by
    cases h with
    | lit q l => exact .lit q (RepL.unren hf ws l b)
theorem RepL.unren (hf : ∀ j ∈ f, j < r.length) : ∀ (ws : List W) {vs : List V}, RepL K r H vs (W.renL f ws) → W.bndL f.length ws = true → RepL K (pickA f r) H vs ws
  | [], _, h, _ => by cases h; exact .nil
  | w :: ws, _, h, b => by
    have b' : (W.bnd f.length w && W.bndL f.length ws) = true := b
    rw [Bool.and_eq_true] at b'
    cases h with
    | cons q l => exact .cons (Rep.unren hf w q b'.1) (RepL.unren hf ws l b'.2)
end
mutual
theorem W.ren_id {n : Nat} : ∀ w : W, w.bnd n = true → w.ren (List.range n) = w
  | .non, _ => rfl
  | .bl b, _ => rfl
  | .int i, _ => rfl
  | .str x, _ => rfl
  | .raw v, _ => rfl
  | .ref i, b => by
    have hi : i < n := of_decide_eq_true b
    show W.ref ((List.range n).getD i 0) = _
    rw [List.getD_eq_getElem?_getD, List.getElem?_range hi]
    rfl
  | .tup ws, b => by
    show W.tup (W.renL _ ws) = _
    rw [W.renL_id ws b]
  | .lit ws, b => by
    show W.lit (W.renL _ ws) = _
    rw [W.renL_id ws b]
theorem W.renL_id {n : Nat} : ∀ ws : List W, W.bndL n ws = true → W.renL (List.range n) ws = ws
  | [], _ => rfl
  | w :: ws, b => by
    have b' : (W.bnd n w && W.bndL n ws) = true := b
    rw [Bool.and_eq_true] at b'
    show w.ren _ :: W.renL _ ws = _
    rw [W.ren_id w b'.1, W.renL_id ws b'.2]
end
theorem O.ren_id {n : Nat} : ∀ o : O, o.bnd n = true → o.ren (List.range n) = o
  | .lst ws, b => by
    show O.lst _ = _
    rw [W.renL_id ws b]
  | .dk kvs, b => by
    have go : ∀ kvs : List (Key × W), W.bndL n (kvs.map (·.2)) = true → (kvs.map fun kv => (kv.1, kv.2.ren (List.range n))) = kvs := by
      intro kvs
      induction kvs with
      | nil => intro _; rfl
      | cons kv r ih =>
        intro b
        have b' : (W.bnd n kv.2 && W.bndL n (r.map (·.2))) = true := b
        rw [Bool.and_eq_true] at b'
        rw [List.map_cons, ih b'.2, W.ren_id _ b'.1]
    show O.dk _ = _
    rw [go kvs b]
end
/-- what a def hands back: the store laid anew by f (place i comes from f[i]); what is not named is forgotten -/
def Ends0 (n : Nat) (Q : WK) : WK := fun w S' => ∃ (f : List Nat) (S0 : Sto) (w0 : W), f.length = S0.length ∧ (∀ i, i < n → f[i]? = some i) ∧ f.Nodup ∧
  (∀ (i : Nat) (o : O), S0[i]? = some o → o.bnd f.length = true ∧ ∃ j, f[i]? = some j ∧ S'[j]? = some (o.ren f)) ∧ w = w0.ren f ∧ w0.bnd f.length = true ∧ Q w0 S0
theorem Ends0.drop {n : Nat} {Q : WK} {w : W} {S0 : Sto} (T : Sto) (hn : n ≤ S0.length) (c : Closed S0) (hb : w.bnd S0.length = true) (q : Q w S0) : Ends0 n Q w (S0 ++ T) := by
  refine ⟨List.range S0.length, S0, w, List.length_range, fun i hi => List.getElem?_range (by omega), List.nodup_range, fun i o h => ?_, (W.ren_id w hb).symm, by rw [List.length_range]; exact hb, q⟩
  have hi : i < S0.length := (List.getElem?_eq_some_iff.mp h).1
  have b := c i o h
  exact ⟨by rw [List.length_range]; exact b, i, List.getElem?_range hi, by rw [List.getElem?_append_left hi, h, O.ren_id o b]⟩
theorem Ends0.keep {n : Nat} {Q : WK} {w : W} {S0 : Sto} (hn : n ≤ S0.length) (c : Closed S0) (hb : w.bnd S0.length = true) (q : Q w S0) : Ends0 n Q w S0 := by
  have h := Ends0.drop (n := n) (Q := Q) (w := w) (S0 := S0) [] hn c hb q
  rw [List.append_nil] at h
  exact h
section
variable {P : Program} {w : World} {K : Fg} {mg : Str → Option Value} {base : Heap}
theorem ends_sim {r r' : List Addr} {H H' : Hp} {S S' : Sto} {Q : WK} {w : W} {v : V} (R : RelS K r H S) (e : Ext K r H r' H') (R' : RelS K r' H' S') (p : Rep K r' H' v w) (h : Ends0 S.length Q w S') :
    ∃ r0 S0 w0, Ext K r H r0 H' ∧ RelS K r0 H' S0 ∧ Rep K r0 H' v w0 ∧ Q w0 S0 := by
  obtain ⟨f, S0, w0, hl, hn, nd, ho, rfl, hb, q⟩ := h
  have hf : ∀ j ∈ f, j < r'.length := fun j hj => by
    obtain ⟨i, hi, e1⟩ := List.mem_iff_getElem.mp hj
    obtain ⟨_, j', h1, h2⟩ := ho i S0[i] (List.getElem?_eq_getElem (by rw [← hl]; exact hi))
    rw [List.getElem?_eq_getElem hi, e1] at h1
    cases h1
    rw [R'.len]
    exact (List.getElem?_eq_some_iff.mp h2).1
  refine ⟨pickA f r', S0, w0, ⟨⟨fun i a h => ?_, e.tup, e.frz⟩, e.oth, fun b hb' n' => ?_⟩, ⟨by rw [pickA, List.length_map]; exact hl, ?_, fun i a o ha hs => ?_⟩, Rep.unren hf w0 p hb, q⟩
  · rw [pickA_get hf (hn i (R.lt h))]
    exact e.pre i a h
  · obtain ⟨j, hj, e1⟩ := List.mem_map.mp hb'
    have lj := hf j hj
    rw [List.getD_eq_getElem?_getD, List.getElem?_eq_getElem lj] at e1
    have e2 : r'[j] = b := e1
    exact e.new b (by rw [← e2]; exact List.getElem_mem lj) n'
  · refine (List.pairwise_map).mpr ?_
    refine List.Pairwise.imp_of_mem (fun {a b} ha hb' hne he => ?_) nd
    have la := hf a ha
    have lb := hf b hb'
    rw [List.getD_eq_getElem?_getD, List.getD_eq_getElem?_getD, List.getElem?_eq_getElem la, List.getElem?_eq_getElem lb] at he
    exact hne ((List.getElem_inj R'.nd).mp (show r'[a] = r'[b] from he))
  · obtain ⟨b, j, h1, h2⟩ := ho i o hs
    rw [pickA_get hf h1] at ha
    have x := R'.obj j a _ ha h2
    cases o with
    | lst ws =>
      obtain ⟨xs, h3, l⟩ := x
      exact ⟨xs, h3, RepL.unren hf ws l b⟩
    | dk kvs =>
      obtain ⟨xs, h3, h4, l⟩ := x
      have b' : W.bndL f.length (kvs.map (·.2)) = true := b
      refine ⟨xs, h3, ?_, RepL.unren hf (kvs.map (·.2)) ?_ b'⟩
      · rw [h4, List.map_map]
        rfl
      · rw [renL_map, List.map_map]
        rw [List.map_map] at l
        exact l
theorem fn_d {x qual : Str} {st : Stmt} {f : Addr} {fd : FuncData} {N ps : List Str} {k : Nat} {F : DSpec} (Fu : Fun K x qual st f fd) (Sc : FnScope N ps (defScope st)) (len : ∀ ws S Q, F ws S Q → ws.length = ps.length)
    (hb : ∀ (cdv : Value) (A : Around) (outer : List PySem.Env) (s : Shared) (H : Hp) (E : XK), Room k (A.deeper (envOfC qual (defScope st) s.heap.objs.size f cdv)) →
      ∃ d, XSs (cxOf CX0 P w K mg base N qual (defScope st) f cdv A outer s H E).nox (defBody st) d ∧
        ∀ ws S Q, Closed S → F ws S Q → d { nx := fun _ S' => Ends0 S.length Q .non S', rt := Ends0 S.length Q, bk := fun _ _ => False, ct := fun _ _ => False } (startW N.length ws) S) :
    FnOk P w K mg base CX0 (k + 1) f fd ps (spOf K F) := by
  refine Fu.ok Sc (fun vs H Q E h => ?_) (fun cdv A outer s H vs Q E hr h => ?_)
  · obtain ⟨r, S, ws, Q', R, l, hF, _⟩ := h
    rw [l.length]
    exact len ws S Q' hF
  · obtain ⟨d, hx, hd⟩ := hb cdv A outer s H E hr
    obtain ⟨t, pt, st⟩ := hx.ex
    obtain ⟨r, S, ws, Q', R, l, hF, k⟩ := h
    refine ⟨t, pt, ?_⟩
    refine st r H S _ _ _ _ R (RepE.start l) (hd ws S Q' R.closed hF) ⟨?_, ?_, fun _ _ _ _ _ _ _ _ h => h, fun _ _ _ _ _ _ _ _ h => h⟩
    · intro r' H' S' s' env' e' R' E' h
      obtain ⟨r0, S0, w0, e0, R0, p0, q⟩ := ends_sim R e' R' .non h
      exact k r0 H' S0 _ w0 e0 R0 p0 q
    · intro r' H' S' v w e' R' p' h
      obtain ⟨r0, S0, w0, e0, R0, p0, q⟩ := ends_sim R e' R' p' h
      exact k r0 H' S0 _ w0 e0 R0 p0 q
end
end DL

/-! DLd: operators, built-ins, methods by values. -/
namespace DL
open PySem PySem.Spec PyProof.Rows L2

/-! ### sequences, data -/
def seqOf (S : Sto) : W → Option (List W)
  | .tup ws => some ws
  | .lit ws => some ws
  | .ref i => match S[i]? with
    | some (.lst ws) => some ws
    | _ => none
  | _ => none
mutual
def W.pure : W → Bool
  | .tup ws => W.pureL ws
  | .lit ws => W.pureL ws
  | .ref _ => false
  | .raw _ => false
  | _ => true
def W.pureL : List W → Bool
  | [] => true
  | w :: ws => w.pure && W.pureL ws
end
mutual
def datW : W → PyData
  | .non => .none
  | .bl b => .bool b
  | .int i => .int i
  | .str x => .str x
  | .tup ws => .tuple (datWs ws)
  | .lit ws => .list (datWs ws)
  | .ref _ => .none
  | .raw _ => .none
def datWs : List W → List PyData
  | [] => []
  | w :: ws => datW w :: datWs ws
end
def dataS (S : Sto) (w : W) : Option PyData := match w with
  | .ref i => match S[i]? with
    | some (.lst ws) => if W.pureL ws then some (.list (datWs ws)) else none
    | _ => none
  | w => if w.pure then some (datW w) else none
/-- == of scalars -/
def scW : W → W → Option Bool
  | .int i, .int j => some (decide (i = j))
  | .str a, .str b => some (decide (a = b))
  | .bl a, .bl b => some (decide (a = b))
  | .non, .non => some true
  | .non, .int _ => some false | .int _, .non => some false | .non, .bl _ => some false | .bl _, .non => some false
  | .non, .str _ => some false | .str _, .non => some false | .int _, .str _ => some false | .str _, .int _ => some false
  | .bl _, .str _ => some false | .str _, .bl _ => some false
  | _, _ => none
def flW : W → Bool
  | .non => true | .bl _ => true | .int _ => true | .str _ => true | _ => false
def eqW : W → W → Bool
  | .non, .non => true
  | .bl a, .bl b => a == b
  | .bl a, .int b => (if a then 1 else 0) == b
  | .int a, .bl b => a == (if b then 1 else 0)
  | .int a, .int b => a == b
  | .str a, .str b => a == b
  | _, _ => false
def inW (x : W) (ws : List W) : Bool := ws.any fun y => eqW y x
section
variable {K : Fg} {r : List Addr} {H : Hp} {S : Sto}
theorem relO_there {i : Nat} {a : Addr} (R : RelS K r H S) (ha : r[i]? = some a) : ∃ ob, S[i]? = some ob ∧ RelO K r H a ob := by
  have l := R.lt ha
  exact ⟨S[i], List.getElem?_eq_getElem l, R.obj i a _ ha (List.getElem?_eq_getElem l)⟩
theorem seqOf_sim {v : V} {w : W} {ws : List W} (R : RelS K r H S) (p : Rep K r H v w) (h : seqOf S w = some ws) : ∃ a xs, v = .ref a ∧ (SqL K H a xs ∨ SqT K H a xs) ∧ RepL K r H xs ws := by
  cases p with
  | tup q l =>
    cases Option.some.inj h
    exact ⟨_, _, rfl, .inr q, l⟩
  | lit q l =>
    cases Option.some.inj h
    exact ⟨_, _, rfl, .inl q.1, l⟩
  | @ref a i q =>
    obtain ⟨o, ho, x⟩ := relO_there R q
    have e : seqOf S (.ref i) = some ws := h
    simp only [seqOf, ho] at e
    cases o with
    | lst us =>
      cases Option.some.inj e
      obtain ⟨xs, h1, l⟩ := x
      exact ⟨_, _, rfl, .inl (.of h1), l⟩
    | dk us => cases e
  | _ => cases h
theorem seqOf_ref {i : Nat} {ws : List W} (h : S[i]? = some (.lst ws)) : seqOf S (.ref i) = some ws := by simp only [seqOf, h]
theorem repL_strs : ∀ {vs : List V} {ys : List Str}, RepL K r H vs (ys.map W.str) → vs = ys.map V.str
  | _, [], .nil => rfl
  | _, y :: ys, .cons h l => by
    cases h
    rw [repL_strs l]
    rfl
theorem repL_ints : ∀ {vs : List V} {ys : List Int}, RepL K r H vs (ys.map W.int) → vs = ys.map V.int
  | _, [], .nil => rfl
  | _, y :: ys, .cons h l => by
    cases h
    rw [repL_ints l]
    rfl
theorem repL_bls : ∀ {vs : List V} {ys : List Bool}, RepL K r H vs (ys.map W.bl) → vs = ys.map V.bl
  | _, [], .nil => rfl
  | _, y :: ys, .cons h l => by
    cases h
    rw [repL_bls l]
    rfl
theorem repL_of_ints : ∀ (ys : List Int), RepL K r H (ys.map V.int) (ys.map W.int)
  | [] => .nil
  | y :: ys => .cons (.int y) (repL_of_ints ys)
theorem repL_of_strs : ∀ (ys : List Str), RepL K r H (ys.map V.str) (ys.map W.str)
  | [] => .nil
  | y :: ys => .cons (.str y) (repL_of_strs ys)
mutual
theorem dp_of : ∀ {v : V} {w : W}, Rep K r H v w → w.pure = true → Dp K H v (datW w)
  | _, _, .non, _ => .non
  | _, _, .bl b, _ => .bl b
  | _, _, .int i, _ => .int i
  | _, _, .str x, _ => .str x
  | _, _, .tup h l, b => .tup h (dpL_of l b)
  | _, _, .lit h l, b => .lst h.1 (dpL_of l b)
  | _, _, .ref h, b => Bool.noConfusion (show false = true from b)
  | _, _, .raw v, b => Bool.noConfusion (show false = true from b)
theorem dpL_of : ∀ {vs : List V} {ws : List W}, RepL K r H vs ws → W.pureL ws = true → DpAll K H vs (datWs ws)
  | _, _, .nil, _ => .nil
  | _, _, .cons h l, b => by
    have b' : (W.pure _ && W.pureL _) = true := b
    rw [Bool.and_eq_true] at b'
    exact .cons (dp_of h b'.1) (dpL_of l b'.2)
end
theorem dataS_sim {v : V} {w : W} {d : PyData} (R : RelS K r H S) (p : Rep K r H v w) (h : dataS S w = some d) : Dp K H v d := by
  cases p with
  | @ref a i q =>
    obtain ⟨o, ho, x⟩ := relO_there R q
    have e : dataS S (.ref i) = some d := h
    simp only [dataS, ho] at e
    cases o with
    | lst us =>
      simp only at e
      split at e
      · rename_i hp
        cases Option.some.inj e
        obtain ⟨xs, h1, l⟩ := x
        exact .lst (.of h1) (dpL_of l hp)
      · cases e
    | dk us => cases e
  | non => cases Option.some.inj h; exact .non
  | bl b => cases Option.some.inj h; exact .bl b
  | int b => cases Option.some.inj h; exact .int b
  | str b => cases Option.some.inj h; exact .str b
  | @tup a xs ws q l =>
    have e : (if (W.tup ws).pure = true then some (datW (.tup ws)) else none) = some d := h
    split at e
    · rename_i hp
      cases Option.some.inj e
      exact dp_of (.tup q l) hp
    · cases e
  | @lit a xs ws q l =>
    have e : (if (W.lit ws).pure = true then some (datW (.lit ws)) else none) = some d := h
    split at e
    · rename_i hp
      cases Option.some.inj e
      exact dp_of (.lit q l) hp
    · cases e
  | raw v => cases h
theorem flat_sim {v : V} {w : W} (p : Rep K r H v w) (h : flW w = true) : flatV v = true := by
  cases p <;> first | rfl | exact Bool.noConfusion (show false = true from h)
theorem eqW_sim {v u : V} {w z : W} (p : Rep K r H v w) (q : Rep K r H u z) (h : flW w = true) (h' : flW z = true) : eqV v u = eqW w z := by
  cases p <;> first
    | (cases q <;> first | rfl | exact Bool.noConfusion (show false = true from h'))
    | exact Bool.noConfusion (show false = true from h)
theorem flat_all {vs : List V} {ws : List W} (l : RepL K r H vs ws) (h : ws.all flW = true) : vs.all flatV = true := by
  induction vs generalizing ws with
  | nil => rfl
  | cons v vs ih =>
    cases l with
    | cons p l =>
      rw [List.all_cons, Bool.and_eq_true] at h ⊢
      exact ⟨flat_sim p h.1, ih l h.2⟩
theorem inW_sim {v : V} {w : W} {vs : List V} {ws : List W} (p : Rep K r H v w) (l : RepL K r H vs ws) (h : flW w = true) (hs : ws.all flW = true) : inV v vs = inW w ws := by
  induction vs generalizing ws with
  | nil => cases l; rfl
  | cons u vs ih =>
    cases l with
    | cons q l =>
      rw [List.all_cons, Bool.and_eq_true] at hs
      show (eqV u v || inV v vs) = (eqW _ w || inW w _)
      rw [eqW_sim q p hs.1 h, ih l hs.2]
theorem atI_sim {vs : List V} {ws : List W} {i : Int} {w : W} (l : RepL K r H vs ws) (h : atI ws i = some w) : ∃ v, atI vs i = some v ∧ Rep K r H v w := by
  have hl := l.length
  unfold atI at h ⊢
  rw [hl]
  cases hj : ixN ws.length i with
  | none =>
    rw [hj] at h
    cases h
  | some j =>
    rw [hj] at h
    exact l.get h
def cutW (ws : List W) (lo hi : Option Int) : List W := (ws.drop (HT.sIx ws.length 0 lo)).take (HT.sIx ws.length ws.length hi - HT.sIx ws.length 0 lo)
theorem cut_sim {vs : List V} {ws : List W} (l : RepL K r H vs ws) (lo hi : Option Int) : RepL K r H (cutV vs lo hi) (cutW ws lo hi) := by
  unfold cutV cutW
  rw [l.length]
  exact (l.drop _).take _
end
theorem cutW_whole {ws : List W} {lo hi : Option Int} (h : HT.sIx ws.length 0 lo = 0 ∧ HT.sIx ws.length ws.length hi = ws.length) : cutW ws lo hi = ws := by
  unfold cutW
  rw [h.1, h.2]
  simp

/-! ### operators -/
section
variable {X : Cx}
def vAdd (x y : W) (S : Sto) (Q : WK) : Prop := match x, y with
  | .int i, .int j => Q (.int (i + j)) S
  | .str a, .str b => a.length + b.length ≤ sizeLine ∧ Q (.str (a ++ b)) S
  | .tup a, .tup b => a.length + b.length ≤ sizeLine ∧ Q (.tup (a ++ b)) S
  | .ref i, .ref j => ∃ a b, S[i]? = some (.lst a) ∧ S[j]? = some (.lst b) ∧ a.length + b.length ≤ sizeLine ∧ Q (.ref S.length) (S ++ [.lst (a ++ b)])
  | _, _ => False
def rAddAll (K : Fg) : R2 := fun x y H Q => (∃ i j, x = .int i ∧ y = .int j ∧ Q (.int (i + j)) H) ∨ ((∃ i j, x = .str i ∧ y = .str j ∧ i.length + j.length ≤ sizeLine ∧ Q (.str (i ++ j)) H) ∨ (rCatA K x y H Q ∨ rCat x y H Q))
theorem op_addAll : OpR X (binaryOp .Add) (rAddAll X.K) := OpR.or op_add (OpR.or op_add_str (OpR.or op_catA op_cat))
theorem add_sim {K : Fg} : SimR K (rAddAll K) vAdd := by
  intro r H S x y wx wy Q Q0 R px py d k
  cases px <;> cases py <;> try exact d.elim
  · exact .inl ⟨_, _, rfl, rfl, k r H S _ _ .refl R (.int _) d⟩
  · exact .inr (.inl ⟨_, _, rfl, rfl, d.1, k r H S _ _ .refl R (.str _) d.2⟩)
  · rename_i a xs ws h l b ys zs h2 l2
    have e1 := l.length
    have e2 := l2.length
    refine .inr (.inr (.inl ⟨_, _, xs, ys, rfl, rfl, h, h2, by rw [e1, e2]; exact d.1, fun e => ?_, fun e e' => ?_, fun e e' p hp => ?_⟩))
    · subst e
      cases l
      exact k r H S _ _ .refl R (.tup h2 l2) d.2
    · subst e'
      cases l2
      have d2 := d.2
      rw [List.append_nil] at d2
      exact k r H S _ _ .refl R (.tup h l) d2
    · exact k r _ S _ _ (ext_new hp) (rel_new R hp) (rep_tup hp (l.app l2)) d.2
  · rename_i a i h b j h2
    obtain ⟨as, bs, ha, hb, hz, q⟩ := d
    obtain ⟨xs, h1, l1⟩ := R.obj i _ _ h ha
    obtain ⟨ys, h3, l3⟩ := R.obj j _ _ h2 hb
    refine .inr (.inr (.inr ⟨_, _, xs, ys, rfl, rfl, h1, h3, by rw [l1.length, l3.length]; exact hz, fun p hp => ?_⟩))
    exact k _ _ _ _ _ (ext_mem hp) (new_lst R hp (l1.app l3)) (rep_mem R) q
/-- ints in, an int out -/
def vI2 (C : Int → Int → Prop) (g : Int → Int → W) (x y : W) (S : Sto) (Q : WK) : Prop := match x, y with
  | .int i, .int j => C i j ∧ Q (g i j) S
  | _, _ => False
theorem i2_sim {K : Fg} {C : Int → Int → Prop} {g : Int → Int → V} {g' : Int → Int → W} (h : ∀ r H i j, Rep K r H (g i j) (g' i j)) : SimR K (rI C g) (vI2 C g') := by
  intro r H S x y wx wy Q Q0 R px py d k
  cases px <;> cases py <;> try exact d.elim
  exact ⟨_, _, rfl, rfl, d.1, k r H S _ _ .refl R (h _ _ _ _) d.2⟩
def vI20 (g : Int → Int → W) (x y : W) (S : Sto) (Q : WK) : Prop := match x, y with
  | .int i, .int j => Q (g i j) S
  | _, _ => False
theorem i20_sim {K : Fg} {g : Int → Int → V} {g' : Int → Int → W} (h : ∀ r H i j, Rep K r H (g i j) (g' i j)) : SimR K (rI0 g) (vI20 g') := by
  intro r H S x y wx wy Q Q0 R px py d k
  cases px <;> cases py <;> try exact d.elim
  exact ⟨_, _, rfl, rfl, k r H S _ _ .refl R (h _ _ _ _) d⟩
abbrev vSub := vI20 fun i j => .int (i - j)
abbrev vMul := vI2 (fun i j => CMul i j ∨ CMulW i j) fun i j => .int (i * j)
abbrev vDiv := vI2 CDivW fun i j => .int (i / j)
abbrev vMod := vI2 (fun _ j => 0 < j) fun i j => .int (i % j)
abbrev vPow := vI2 CPow fun i j => .int (i ^ j.toNat)
theorem op_mulA : OpR X (binaryOp .Mult) (rI (fun i j => CMul i j ∨ CMulW i j) fun i j => .int (i * j)) := by
  intro pins s σ H x y v u Q I rx ry h
  obtain ⟨i, j, rfl, rfl, hc, q⟩ := h
  rcases hc with hc | hc
  · exact op_mul pins s σ H _ _ v u Q I rx ry ⟨i, j, rfl, rfl, hc, q⟩
  · exact op_mulW pins s σ H _ _ v u Q I rx ry ⟨i, j, rfl, rfl, hc, q⟩
variable {a b e o : Expr} {es : List Expr} {da db de d0 : DE} {dA : DA} {pos : Pos}
theorem x_add (ha : XE X a da) (hb : XE X b db) : XE X (.BinOp a .Add b pos) (dOp vAdd da db) := xe_op op_addAll add_sim ha hb
theorem x_sub (ha : XE X a da) (hb : XE X b db) : XE X (.BinOp a .Sub b pos) (dOp vSub da db) := xe_op op_sub (i20_sim fun _ _ _ _ => .int _) ha hb
theorem x_mul (ha : XE X a da) (hb : XE X b db) : XE X (.BinOp a .Mult b pos) (dOp vMul da db) := xe_op op_mulA (i2_sim fun _ _ _ _ => .int _) ha hb
theorem x_div (ha : XE X a da) (hb : XE X b db) : XE X (.BinOp a .FloorDiv b pos) (dOp vDiv da db) := xe_op op_fdivW (i2_sim fun _ _ _ _ => .int _) ha hb
theorem x_mod (ha : XE X a da) (hb : XE X b db) : XE X (.BinOp a .Mod b pos) (dOp vMod da db) := xe_op op_mod (i2_sim fun _ _ _ _ => .int _) ha hb
theorem x_pow (ha : XE X a da) (hb : XE X b db) : XE X (.BinOp a .Pow b pos) (dOp vPow da db) := xe_op op_pow (i2_sim fun _ _ _ _ => .int _) ha hb
def vNeg (x : W) (S : Sto) (Q : WK) : Prop := match x with
  | .int i => Q (.int (-i)) S
  | _ => False
theorem neg_sim {K : Fg} : SimU K (rU fun i => .int (-i)) vNeg := by
  intro r H S x wx Q Q0 R px d k
  cases px <;> try exact d.elim
  exact ⟨_, rfl, k r H S _ _ .refl R (.int _) d⟩
theorem x_neg (ha : XE X a da) : XE X (.UnaryOp .USub a pos) (dUn vNeg da) := xe_un un_neg neg_sim ha
/-! ### == and its kin -/
def vEqG (neg : Bool) (x y : W) (S : Sto) (Q : WK) : Prop := match scW x y with
  | some b => Q (.bl (neg ^^ b)) S
  | none => ∃ d e, dataS S x = some d ∧ dataS S y = some e ∧ SeqAt.shaped d = true ∧ SeqAt.shaped e = true ∧ Q (.bl (neg ^^ PyData.eqv d e)) S
abbrev vEq := vEqG false
abbrev vNe := vEqG true
def rEqG (K : Fg) (neg : Bool) : R2 := fun x y H Q => (scal x y = true ∧ Q (.bl (neg ^^ decide (x = y))) H) ∨ ∃ d e, Dp K H x d ∧ Dp K H y e ∧ SeqAt.shaped d = true ∧ SeqAt.shaped e = true ∧ Q (.bl (neg ^^ PyData.eqv d e)) H
theorem op_eqG (hu : X.A.units + 64 < cLine) : OpR X (compareOp .Eq) (rEqG X.K false) := by
  have h := OpR.or (X := X) op_eq (op_eqD hu)
  intro pins s σ H x y v u Q I rx ry q
  refine h pins s σ H x y v u Q I rx ry ?_
  rcases q with q | ⟨d, e, q⟩
  · exact .inl ⟨q.1, by have z := q.2; rw [Bool.false_xor] at z; exact z⟩
  · exact .inr ⟨d, e, q.1, q.2.1, q.2.2.1, q.2.2.2.1, by have z := q.2.2.2.2; rw [Bool.false_xor] at z; exact z⟩
theorem op_neG (hu : X.A.units + 64 < cLine) : OpR X (compareOp .NotEq) (rEqG X.K true) := by
  have h := OpR.or (X := X) op_ne (op_neD hu)
  intro pins s σ H x y v u Q I rx ry q
  refine h pins s σ H x y v u Q I rx ry ?_
  rcases q with q | ⟨d, e, q⟩
  · exact .inl ⟨q.1, by have z := q.2; rw [Bool.true_xor] at z; exact z⟩
  · exact .inr ⟨d, e, q.1, q.2.1, q.2.2.1, q.2.2.2.1, by have z := q.2.2.2.2; rw [Bool.true_xor] at z; exact z⟩
theorem sc_sim {K : Fg} {r : List Addr} {H : Hp} {x y : V} {wx wy : W} {b : Bool} (px : Rep K r H x wx) (py : Rep K r H y wy) (h : scW wx wy = some b) : scal x y = true ∧ decide (x = y) = b := by
  cases px <;> cases py <;> first
    | (cases Option.some.inj h; exact ⟨rfl, rfl⟩)
    | (cases Option.some.inj h; exact ⟨rfl, by simp⟩)
    | cases h
theorem eqG_sim {K : Fg} {neg : Bool} : SimR K (rEqG K neg) (vEqG neg) := by
  intro r H S x y wx wy Q Q0 R px py d k
  unfold vEqG at d
  split at d
  · rename_i b hb
    obtain ⟨h1, h2⟩ := sc_sim px py hb
    exact .inl ⟨h1, by rw [h2]; exact k r H S _ _ .refl R (.bl _) d⟩
  · obtain ⟨d1, d2, h1, h2, s1, s2, q⟩ := d
    exact .inr ⟨d1, d2, dataS_sim R px h1, dataS_sim R py h2, s1, s2, k r H S _ _ .refl R (.bl _) q⟩
theorem x_eq (hu : X.A.units + 64 < cLine) (ha : XE X a da) (hb : XE X b db) : XE X (.Compare a [.Eq] [b] pos) (dOp vEq da db) := xe_cmp (op_eqG hu) eqG_sim ha hb
theorem x_ne (hu : X.A.units + 64 < cLine) (ha : XE X a da) (hb : XE X b db) : XE X (.Compare a [.NotEq] [b] pos) (dOp vNe da db) := xe_cmp (op_neG hu) eqG_sim ha hb
theorem t_eq (hu : X.A.units + 64 < cLine) (ha : XE X a da) (hb : XE X b db) : XT X (.Compare a [.Eq] [b] pos) (dB (dOp vEq da db)) := xt_cmp (op_eqG hu) eqG_sim ha hb
theorem t_ne (hu : X.A.units + 64 < cLine) (ha : XE X a da) (hb : XE X b db) : XT X (.Compare a [.NotEq] [b] pos) (dB (dOp vNe da db)) := xt_cmp (op_neG hu) eqG_sim ha hb
/-! ### order: ints, texts -/
def vCmp (g : Int → Int → Bool) (g' : Str → Str → Bool) (x y : W) (S : Sto) (Q : WK) : Prop := match x, y with
  | .int i, .int j => Q (.bl (g i j)) S
  | .str i, .str j => Q (.bl (g' i j)) S
  | _, _ => False
theorem cmp_sim {K : Fg} {g : Int → Int → Bool} {g' : Str → Str → Bool} : SimR K (fun x y H Q => rI0 (fun i j => .bl (g i j)) x y H Q ∨ ∃ i j, x = .str i ∧ y = .str j ∧ Q (.bl (g' i j)) H) (vCmp g g') := by
  intro r H S x y wx wy Q Q0 R px py d k
  cases px <;> cases py <;> try exact d.elim
  · exact .inl ⟨_, _, rfl, rfl, k r H S _ _ .refl R (.bl _) d⟩
  · exact .inr ⟨_, _, rfl, rfl, k r H S _ _ .refl R (.bl _) d⟩
abbrev vLt := vCmp (fun i j => decide (i < j)) fun i j => decide (i.cps.toList < j.cps.toList)
abbrev vLe := vCmp (fun i j => decide (i ≤ j)) fun i j => !decide (j.cps.toList < i.cps.toList)
abbrev vGt := vCmp (fun i j => decide (j < i)) fun i j => decide (j.cps.toList < i.cps.toList)
abbrev vGe := vCmp (fun i j => decide (j ≤ i)) fun i j => !decide (i.cps.toList < j.cps.toList)
theorem x_lt (ha : XE X a da) (hb : XE X b db) : XE X (.Compare a [.Lt] [b] pos) (dOp vLt da db) := xe_cmp (OpR.or op_lt op_lt_str) cmp_sim ha hb
theorem x_le (ha : XE X a da) (hb : XE X b db) : XE X (.Compare a [.LtE] [b] pos) (dOp vLe da db) := xe_cmp (OpR.or op_le op_le_str) cmp_sim ha hb
theorem x_gt (ha : XE X a da) (hb : XE X b db) : XE X (.Compare a [.Gt] [b] pos) (dOp vGt da db) := xe_cmp (OpR.or op_gt op_gt_str) cmp_sim ha hb
theorem x_ge (ha : XE X a da) (hb : XE X b db) : XE X (.Compare a [.GtE] [b] pos) (dOp vGe da db) := xe_cmp (OpR.or op_ge op_ge_str) cmp_sim ha hb
theorem t_lt (ha : XE X a da) (hb : XE X b db) : XT X (.Compare a [.Lt] [b] pos) (dB (dOp vLt da db)) := xt_cmp (OpR.or op_lt op_lt_str) cmp_sim ha hb
theorem t_le (ha : XE X a da) (hb : XE X b db) : XT X (.Compare a [.LtE] [b] pos) (dB (dOp vLe da db)) := xt_cmp (OpR.or op_le op_le_str) cmp_sim ha hb
theorem t_gt (ha : XE X a da) (hb : XE X b db) : XT X (.Compare a [.Gt] [b] pos) (dB (dOp vGt da db)) := xt_cmp (OpR.or op_gt op_gt_str) cmp_sim ha hb
theorem t_ge (ha : XE X a da) (hb : XE X b db) : XT X (.Compare a [.GtE] [b] pos) (dB (dOp vGe da db)) := xt_cmp (OpR.or op_ge op_ge_str) cmp_sim ha hb
/-! ### is None, in -/
def vIs (neg : Bool) (x y : W) (S : Sto) (Q : WK) : Prop := match x, y with
  | .raw _, _ => False
  | .non, .non => Q (.bl (!neg)) S
  | _, .non => Q (.bl neg) S
  | _, _ => False
theorem is_sim {K : Fg} : SimR K (fun x y H Q => y = .non ∧ Q (.bl (decide (x = .non))) H) (vIs false) := by
  intro r H S x y wx wy Q Q0 R px py d k
  cases py <;> cases px <;> first
    | exact d.elim
    | exact ⟨rfl, k r H S _ _ .refl R (.bl _) d⟩
theorem isnot_sim {K : Fg} : SimR K (fun x y H Q => y = .non ∧ Q (.bl (!decide (x = .non))) H) (vIs true) := by
  intro r H S x y wx wy Q Q0 R px py d k
  cases py <;> cases px <;> first
    | exact d.elim
    | exact ⟨rfl, k r H S _ _ .refl R (.bl _) d⟩
theorem x_is (ha : XE X a da) (hb : XE X b db) : XE X (.Compare a [.Is] [b] pos) (dOp (vIs false) da db) := xe_cmp op_isN is_sim ha hb
theorem x_isnot (ha : XE X a da) (hb : XE X b db) : XE X (.Compare a [.IsNot] [b] pos) (dOp (vIs true) da db) := xe_cmp op_notN isnot_sim ha hb
theorem t_is (ha : XE X a da) (hb : XE X b db) : XT X (.Compare a [.Is] [b] pos) (dB (dOp (vIs false) da db)) := xt_cmp op_isN is_sim ha hb
theorem t_isnot (ha : XE X a da) (hb : XE X b db) : XT X (.Compare a [.IsNot] [b] pos) (dB (dOp (vIs true) da db)) := xt_cmp op_notN isnot_sim ha hb
def vIn (neg : Bool) (x y : W) (S : Sto) (Q : WK) : Prop := ∃ ws, seqOf S y = some ws ∧ flW x = true ∧ ws.all flW = true ∧ Q (.bl (neg ^^ inW x ws)) S
theorem in_sim {K : Fg} : SimR K (rIn K false) (vIn false) := by
  intro r H S x y wx wy Q Q0 R px py d k
  obtain ⟨ws, hs, f1, f2, q⟩ := d
  obtain ⟨p, xs, rfl, hq, l⟩ := seqOf_sim R py hs
  refine ⟨p, xs, rfl, hq, flat_sim px f1, flat_all l f2, ?_⟩
  rw [if_neg Bool.false_ne_true, inW_sim px l f1 f2]
  rw [Bool.false_xor] at q
  exact k r H S _ _ .refl R (.bl _) q
theorem notin_sim {K : Fg} : SimR K (rIn K true) (vIn true) := by
  intro r H S x y wx wy Q Q0 R px py d k
  obtain ⟨ws, hs, f1, f2, q⟩ := d
  obtain ⟨p, xs, rfl, hq, l⟩ := seqOf_sim R py hs
  refine ⟨p, xs, rfl, hq, flat_sim px f1, flat_all l f2, ?_⟩
  rw [if_pos rfl, inW_sim px l f1 f2]
  rw [Bool.true_xor] at q
  exact k r H S _ _ .refl R (.bl _) q
theorem x_in (ha : XE X a da) (hb : XE X b db) (hm : behindInMarks .In b = false := by rfl) : XE X (.Compare a [.In] [b] pos) (dOp (vIn false) da db) := xe_cmp op_in_seq in_sim ha hb hm
theorem x_notin (ha : XE X a da) (hb : XE X b db) (hm : behindInMarks .NotIn b = false := by rfl) : XE X (.Compare a [.NotIn] [b] pos) (dOp (vIn true) da db) := xe_cmp op_notIn_seq notin_sim ha hb hm
theorem t_in (ha : XE X a da) (hb : XE X b db) (hm : behindInMarks .In b = false := by rfl) : XT X (.Compare a [.In] [b] pos) (dB (dOp (vIn false) da db)) := xt_cmp op_in_seq in_sim ha hb hm
theorem t_notin (ha : XE X a da) (hb : XE X b db) (hm : behindInMarks .NotIn b = false := by rfl) : XT X (.Compare a [.NotIn] [b] pos) (dB (dOp (vIn true) da db)) := xt_cmp op_notIn_seq notin_sim ha hb hm
/-! ### subscripts -/
def vIx (x y : W) (S : Sto) (Q : WK) : Prop := match x, y with
  | .ref p, .int i => ∃ ws w, S[p]? = some (.lst ws) ∧ atI ws i = some w ∧ Q w S
  | .tup ws, .int i => ∃ w, atI ws i = some w ∧ Q w S
  | .lit ws, .int i => ∃ w, atI ws i = some w ∧ Q w S
  | .str z, .int i => ∃ c, z.length ≤ sizeLine ∧ atI z.cps.toList i = some c ∧ Q (.str ⟨#[c]⟩) S
  | _, _ => False
theorem ix_sim {K : Fg} : SimR K (rIx K) vIx := by
  intro r H S x y wx wy Q Q0 R px py d k
  cases px <;> cases py <;> try exact d.elim
  · obtain ⟨c, h1, h2, q⟩ := d
    exact .inr (.inr ⟨_, _, c, rfl, rfl, h1, h2, k r H S _ _ .refl R (.str _) q⟩)
  · rename_i a xs ws h l i
    obtain ⟨w, h1, q⟩ := d
    obtain ⟨v, hv, pv⟩ := atI_sim l h1
    exact .inr (.inl ⟨_, xs, i, v, rfl, rfl, h, hv, k r H S _ _ .refl R pv q⟩)
  · rename_i a xs ws h l i
    obtain ⟨w, h1, q⟩ := d
    obtain ⟨v, hv, pv⟩ := atI_sim l h1
    exact .inl ⟨_, xs, i, v, rfl, rfl, h.1, hv, k r H S _ _ .refl R pv q⟩
  · rename_i a j h i
    obtain ⟨ws, w, h0, h1, q⟩ := d
    obtain ⟨xs, h3, l⟩ := R.obj j _ _ h h0
    obtain ⟨v, hv, pv⟩ := atI_sim l h1
    exact .inl ⟨_, xs, i, v, rfl, rfl, .of h3, hv, k r H S _ _ .refl R pv q⟩
theorem x_ix (ha : XE X a da) (hb : XE X b db) (hs : PlainIx b := by exact fun _ _ => rfl) : XE X (.Subscript a b pos) (dOp vIx da db) := xe_ix ix_seq ix_sim ha hb hs
def vSl (x : W) (lo hi : Option Int) (S : Sto) (Q : WK) : Prop := match x with
  | .ref p => ∃ ws, S[p]? = some (.lst ws) ∧ Q (.ref S.length) (S ++ [.lst (cutW ws lo hi)])
  | .lit ws => Q (.ref S.length) (S ++ [.lst (cutW ws lo hi)])
  | .tup ws => Q (.tup (cutW ws lo hi)) S
  | .str z => z.length ≤ sizeLine ∧ Q (.str (cutS z lo hi)) S
  | _ => False
def rSlAll (K : Fg) : V → Option Int → Option Int → Hp → VK → Prop := fun x lo hi H Q => rSlL K x lo hi H Q ∨ (rSlA K x lo hi H Q ∨ rSlS x lo hi H Q)
theorem sl_all : SlR X (rSlAll X.K) := SlR.or sl_list (SlR.or sl_tupA sl_str)
theorem sl_sim {K : Fg} : SimSl K (rSlAll K) vSl := by
  intro r H S x wx lo hi Q Q0 R px d k
  cases px <;> try exact d.elim
  · exact .inr (.inr ⟨_, rfl, d.1, k r H S _ _ .refl R (.str _) d.2⟩)
  · rename_i a xs ws h l
    have e := l.length
    refine .inr (.inl ⟨a, xs, rfl, h, fun hw => ?_, fun hw p hp => ?_⟩)
    · rw [e] at hw
      have d' : Q (.tup (cutW ws lo hi)) S := d
      rw [cutW_whole hw] at d'
      exact k r H S _ _ .refl R (.tup h l) d'
    · exact k r _ S _ _ (ext_new hp) (rel_new R hp) (rep_tup hp (cut_sim l lo hi)) d
  · rename_i a xs ws h l
    exact .inl ⟨a, xs, rfl, h.1, fun p hp => k _ _ _ _ _ (ext_mem hp) (new_lst R hp (cut_sim l lo hi)) (rep_mem R) d⟩
  · rename_i a j h
    obtain ⟨ws, h0, q⟩ := d
    obtain ⟨xs, h3, l⟩ := R.obj j _ _ h h0
    exact .inl ⟨a, xs, rfl, .of h3, fun p hp => k _ _ _ _ _ (ext_mem hp) (new_lst R hp (cut_sim l lo hi)) (rep_mem R) q⟩
theorem x_slice {lo hi : Option Expr} {p2 : Pos} {dl dh : DO} (ha : XE X a da) (hl : XO X lo dl) (hu : XO X hi dh) : XE X (.Subscript a (.Slice lo hi none p2) pos) (dSl vSl da dl dh) := xe_slice sl_all sl_sim ha hl hu
def vSet (o i v : W) (S : Sto) (Q : Sto → Prop) : Prop := match o, i with
  | .ref p, .int k => ∃ ws j, S[p]? = some (.lst ws) ∧ ixN ws.length k = some j ∧ Q (S.set p (.lst (ws.set j v)))
  | _, _ => False
theorem set_sim {K : Fg} : SimSet K rSetL vSet := by
  intro r H S o i v wo wi w Q Q0 R po pi pv d k
  cases po <;> cases pi <;> try exact d.elim
  rename_i a j h n
  obtain ⟨ws, m, h0, h1, q⟩ := d
  obtain ⟨xs, h3, l⟩ := R.obj j _ _ h h0
  exact ⟨a, xs, n, m, rfl, rfl, h3, by rw [l.length]; exact h1, k r _ _ (ext_wr h h3 trivial) (wr_lst R h h3 (l.set pv m)) q⟩
theorem g_sub (ho : XE X a da) (hi : XE X b db) (ha : ∀ v, assign (.Subscript a b pos) X.env v = (do
      let ov ← holding [v] (eval a X.env)
      let iv ← holding [v, ov] (eval b X.env)
      standAt pos
      holding [v, ov, iv] (setItem ov iv v)
      release [v, ov, iv] []) := by intro _; rfl) : XG X (.Subscript a b pos) (gSb da db vSet) := xg_sub set_list set_sim ho hi ha
/-! ### built-ins -/
def vLen (xs : List W) (S : Sto) (Q : WK) : Prop := match xs with
  | [.str z] => z.length ≤ sizeLine ∧ Q (.int z.length) S
  | [w] => ∃ ws, seqOf S w = some ws ∧ Q (.int ws.length) S
  | _ => False
theorem len_sim {K : Fg} : SimC K (fun xs H Q => ∃ x n, xs = [x] ∧ LenV K x H n ∧ Q (.int n) H) vLen := by
  intro r H S xs ws Q Q0 R l d k
  cases l with
  | nil => exact d.elim
  | cons p l =>
    cases l with
    | cons p' l' => cases p <;> exact d.elim
    | nil =>
      have go : ∀ {v : V} {w : W}, Rep K r H v w → (∃ us, seqOf S w = some us ∧ Q (.int us.length) S) → ∃ x n, [v] = [x] ∧ LenV K x H n ∧ Q0 (.int n) H := fun {v w} p h => by
        obtain ⟨us, hs, q⟩ := h
        obtain ⟨a, xs, rfl, hq, l⟩ := seqOf_sim R p hs
        refine ⟨.ref a, xs.length, rfl, ?_, by rw [l.length]; exact k r H S _ _ .refl R (.int _) q⟩
        rcases hq with hq | hq
        · exact .inl ⟨xs, hq, rfl⟩
        · exact .inr ⟨xs, hq, rfl⟩
      have hp := p
      cases p with
      | str z => exact ⟨_, _, rfl, ⟨d.1, rfl⟩, k r H S _ _ .refl R (.int _) d.2⟩
      | _ => exact go hp d
variable {x : Str} {p : Pos}
theorem c_len (hg : Gl X "len") (hm : X.mg "len" = none) (ha : XA X (e :: es) dA) (he : starEach (e :: es) X.env = (false, eval e X.env) :: starEach es X.env := by rfl) (hpl : (backTo pos (starEach es X.env)).any (·.1) = false := by rfl) : XE X (.Call (.Name "len" p) (e :: es) [] pos) (dCB vLen dA) :=
  xe_callB call_len len_sim hg hm PySem.boot_len ha (by decide) (by decide) he hpl
def vI1 (g : Int → W) (xs : List W) (S : Sto) (Q : WK) : Prop := match xs with
  | [.int i] => Q (g i) S
  | _ => False
theorem abs_sim {K : Fg} : SimC K (fun xs H Q => ∃ i, xs = [.int i] ∧ Q (.int (if i < 0 then -i else i)) H) (vI1 fun i => .int (if i < 0 then -i else i)) := by
  intro r H S xs ws Q Q0 R l d k
  cases l with
  | nil => exact d.elim
  | cons p l =>
    cases l with
    | cons p' l' => cases p <;> exact d.elim
    | nil => cases p <;> first | exact d.elim | exact ⟨_, rfl, k r H S _ _ .refl R (.int _) d⟩
theorem c_abs (hg : Gl X "abs") (hm : X.mg "abs" = none) (ha : XA X (e :: es) dA) (he : starEach (e :: es) X.env = (false, eval e X.env) :: starEach es X.env := by rfl) (hpl : (backTo pos (starEach es X.env)).any (·.1) = false := by rfl) : XE X (.Call (.Name "abs" p) (e :: es) [] pos) (dCB (vI1 fun i => .int (if i < 0 then -i else i)) dA) :=
  xe_callB call_abs abs_sim hg hm (by decide +kernel) ha (by decide) (by decide) he hpl
def vIntOf (xs : List W) (S : Sto) (Q : WK) : Prop := match xs with
  | [.int i] => Q (.int i) S
  | [.bl b] => Q (.int (if b then 1 else 0)) S
  | [.str a] => ∃ n, PySem.intText? a = some n ∧ a.length ≤ 640 ∧ Q (.int n) S
  | _ => False
theorem int_sim {K : Fg} : SimC K (fun xs H Q => ((∃ i, xs = [.int i] ∧ Q (.int i) H) ∨ ∃ k, xs = [.bl k] ∧ Q (.int (if k then 1 else 0)) H) ∨ ∃ a n, xs = [.str a] ∧ PySem.intText? a = some n ∧ a.length ≤ 640 ∧ Q (.int n) H) vIntOf := by
  intro r H S xs ws Q Q0 R l d k
  cases l with
  | nil => exact d.elim
  | cons p l =>
    cases l with
    | cons p' l' => cases p <;> exact d.elim
    | nil =>
      cases p <;> try exact d.elim
      · exact .inl (.inr ⟨_, rfl, k r H S _ _ .refl R (.int _) d⟩)
      · exact .inl (.inl ⟨_, rfl, k r H S _ _ .refl R (.int _) d⟩)
      · obtain ⟨n, h1, h2, q⟩ := d
        exact .inr ⟨_, n, rfl, h1, h2, k r H S _ _ .refl R (.int _) q⟩
theorem c_int (hg : Gl X "int") (hm : X.mg "int" = none) (ha : XA X (e :: es) dA) (he : starEach (e :: es) X.env = (false, eval e X.env) :: starEach es X.env := by rfl) (hpl : (backTo pos (starEach es X.env)).any (·.1) = false := by rfl) : XE X (.Call (.Name "int" p) (e :: es) [] pos) (dCB vIntOf dA) :=
  xe_callTy (CallR.or call_int1 call_int_str) int_sim hg hm (by decide +kernel) ha (by decide) (by decide) he hpl
def vStrOf (xs : List W) (S : Sto) (Q : WK) : Prop := match xs with
  | [.int i] => i.natAbs.log2 < 1920 ∧ Q (.str (toString i)) S
  | [.str a] => Q (.str a) S
  | _ => False
theorem str_sim {K : Fg} : SimC K (fun xs H Q => (∃ i, xs = [.int i] ∧ i.natAbs.log2 < 1920 ∧ Q (.str (toString i)) H) ∨ ∃ a, xs = [.str a] ∧ Q (.str a) H) vStrOf := by
  intro r H S xs ws Q Q0 R l d k
  cases l with
  | nil => exact d.elim
  | cons p l =>
    cases l with
    | cons p' l' => cases p <;> exact d.elim
    | nil =>
      cases p <;> try exact d.elim
      · exact .inl ⟨_, rfl, d.1, k r H S _ _ .refl R (.str _) d.2⟩
      · exact .inr ⟨_, rfl, k r H S _ _ .refl R (.str _) d⟩
theorem c_str (hg : Gl X "str") (hm : X.mg "str" = none) (ha : XA X (e :: es) dA) (he : starEach (e :: es) X.env = (false, eval e X.env) :: starEach es X.env := by rfl) (hpl : (backTo pos (starEach es X.env)).any (·.1) = false := by rfl) : XE X (.Call (.Name "str" p) (e :: es) [] pos) (dCB vStrOf dA) :=
  xe_callTy (CallR.or call_str_int SkE.call_str_str) str_sim hg hm (by decide +kernel) ha (by decide) (by decide) he hpl
def vList (xs : List W) (S : Sto) (Q : WK) : Prop := match xs with
  | [w] => ∃ ws, seqOf S w = some ws ∧ Q (.ref S.length) (S ++ [.lst ws])
  | _ => False
theorem list_sim {K : Fg} : SimC K (fun xs H Q => ∃ p ys, xs = [.ref p] ∧ (SqL K H p ys ∨ SqT K H p ys) ∧ ∀ l, H l = none → Q (.ref l) (upd H l (.lst ys))) vList := by
  intro r H S xs ws Q Q0 R l d k
  cases l with
  | nil => exact d.elim
  | cons p l =>
    cases l with
    | cons p' l' => exact d.elim
    | nil =>
      obtain ⟨us, hs, q⟩ := d
      obtain ⟨a, xs, rfl, hq, l⟩ := seqOf_sim R p hs
      exact ⟨a, xs, rfl, hq, fun p hp => k _ _ _ _ _ (ext_mem hp) (new_lst R hp l) (rep_mem R) q⟩
theorem c_list (hg : Gl X "list") (hm : X.mg "list" = none) (ha : XA X (e :: es) dA) (he : starEach (e :: es) X.env = (false, eval e X.env) :: starEach es X.env := by rfl) (hpl : (backTo pos (starEach es X.env)).any (·.1) = false := by rfl) : XE X (.Call (.Name "list" p) (e :: es) [] pos) (dCB vList dA) :=
  xe_callTy call_list_of list_sim hg hm (by decide +kernel) ha (by decide) (by decide) he hpl
def vTuple (xs : List W) (S : Sto) (Q : WK) : Prop := match xs with
  | [w] => ∃ ws, seqOf S w = some ws ∧ Q (.tup ws) S
  | _ => False
theorem tuple_sim {K : Fg} : SimC K (fun xs H Q => ∃ p ys, xs = [.ref p] ∧ ((SqL K H p ys ∧ ∀ l, H l = none → Q (.ref l) (upd H l (.tup ys))) ∨ (SqT K H p ys ∧ Q (.ref p) H))) vTuple := by
  intro r H S xs ws Q Q0 R l d k
  cases l with
  | nil => exact d.elim
  | cons p l =>
    cases l with
    | cons p' l' => exact d.elim
    | nil =>
      obtain ⟨us, hs, q⟩ := d
      obtain ⟨a, xs, rfl, hq, l⟩ := seqOf_sim R p hs
      refine ⟨a, xs, rfl, ?_⟩
      rcases hq with hq | hq
      · exact .inl ⟨hq, fun p hp => k r _ S _ _ (ext_new hp) (rel_new R hp) (rep_tup hp l) q⟩
      · exact .inr ⟨hq, k r H S _ _ .refl R (.tup hq l) q⟩
theorem c_tuple (hg : Gl X "tuple") (hm : X.mg "tuple" = none) (ha : XA X (e :: es) dA) (he : starEach (e :: es) X.env = (false, eval e X.env) :: starEach es X.env := by rfl) (hpl : (backTo pos (starEach es X.env)).any (·.1) = false := by rfl) : XE X (.Call (.Name "tuple" p) (e :: es) [] pos) (dCB vTuple dA) :=
  xe_callTy call_tuple_of tuple_sim hg hm (by decide +kernel) ha (by decide) (by decide) he hpl
/-- isinstance -/
def tyW (S : Sto) : W → Option String
  | .non => some "NoneType" | .bl _ => some "bool" | .int _ => some "int" | .str _ => some "str" | .tup _ => some "tuple" | .lit _ => some "list"
  | .ref i => match S[i]? with
    | some (.lst _) => some "list"
    | some (.dk _) => some "dict"
    | none => none
  | .raw _ => none
def vIsi (xs : List W) (S : Sto) (Q : WK) : Prop := match xs with
  | [w, .raw (.ty n)] => ∃ t b, tyW S w = some t ∧ kitB t n = some b ∧ Q (.bl b) S
  | _ => False
theorem sqL_ty {K : Fg} {H : Hp} {a : Addr} {xs : List V} (h : SqL K H a xs) : TyX K H (.ref a) (.type "list") := by
  rcases h with (h | ⟨o, h⟩) | ⟨o, its, n, h, hc, _⟩
  · exact .base (.lst h)
  · exact .base (.frz h)
  · exact .kList h hc
theorem sqT_ty {K : Fg} {H : Hp} {a : Addr} {xs : List V} (h : SqT K H a xs) : TyX K H (.ref a) (.type "tuple") := by
  rcases h with (h | ⟨o, h⟩) | ⟨o, its, n, h, hc, _⟩
  · exact .base (.tup h)
  · exact .fTuple h
  · exact .kTuple h hc
theorem tyW_sim {K : Fg} {r : List Addr} {H : Hp} {S : Sto} {v : V} {w : W} {t : String} (R : RelS K r H S) (p : Rep K r H v w) (h : tyW S w = some t) : TyX K H v (.type t) := by
  cases p with
  | non => cases Option.some.inj h; exact .base .non
  | bl b => cases Option.some.inj h; exact .base (.bl b)
  | int b => cases Option.some.inj h; exact .base (.int b)
  | str b => cases Option.some.inj h; exact .base (.str b)
  | tup q l => cases Option.some.inj h; exact sqT_ty q
  | lit q l => cases Option.some.inj h; exact sqL_ty q.1
  | @ref a i q =>
    obtain ⟨o, ho, x⟩ := relO_there R q
    have e : tyW S (.ref i) = some t := h
    simp only [tyW, ho] at e
    cases o with
    | lst us =>
      cases Option.some.inj e
      obtain ⟨xs, h1, l⟩ := x
      exact .base (.lst h1)
    | dk us =>
      cases Option.some.inj e
      obtain ⟨xs, h1, l⟩ := x
      exact .base (.dK h1)
  | raw v => cases h
theorem rep_ty {K : Fg} {r : List Addr} {H : Hp} {v u : V} (p : Rep K r H v (.raw u)) : v = u := by cases p; rfl
theorem isi_sim {K : Fg} : SimC K (rIsi K) vIsi := by
  intro r H S xs ws Q Q0 R l d k
  cases l with
  | nil => exact d.elim
  | @cons v vs w ws p l =>
    cases l with
    | nil => exact d.elim
    | @cons u us z zs p' l' =>
      cases l' with
      | cons p2 l2 =>
        unfold vIsi at d
        split at d
        · rename_i heq
          cases heq
        · exact d.elim
      | nil =>
        unfold vIsi at d
        split at d
        · rename_i w' n heq
          injection heq with e1 e2
          injection e2 with e2 _
          subst e1
          subst e2
          obtain ⟨t, b, h1, h2, q⟩ := d
          have e3 := rep_ty p'
          subst e3
          exact ⟨v, .ty n, .type t, .type n, b, rfl, .ty n, tyW_sim R p h1, kit_ty h2, k r H S _ _ .refl R (.bl b) q⟩
        · exact d.elim
theorem c_isi (hg : Gl X "isinstance") (hm : X.mg "isinstance" = none) (ha : XA X (e :: es) dA) (he : starEach (e :: es) X.env = (false, eval e X.env) :: starEach es X.env := by rfl) (hpl : (backTo pos (starEach es X.env)).any (·.1) = false := by rfl) : XE X (.Call (.Name "isinstance" p) (e :: es) [] pos) (dCB vIsi dA) :=
  xe_callB call_isi isi_sim hg hm (by decide +kernel) ha (by decide) (by decide) he hpl
/-- any, all of a list of bools; sum of ints -/
def vAny (f : List Bool → Bool) (xs : List W) (S : Sto) (Q : WK) : Prop := match xs with
  | [.ref i] => ∃ bs : List Bool, S[i]? = some (.lst (bs.map W.bl)) ∧ Q (.bl (f bs)) S
  | _ => False
theorem any_sim {K : Fg} {f : List Bool → Bool} : SimC K (fun vs H Q => ∃ (a : Addr) (bs : List Bool), vs = [V.ref a] ∧ SqL K H a (bs.map V.bl) ∧ Q (.bl (f bs)) H) (vAny f) := by
  intro r H S xs ws Q Q0 R l d k
  cases l with
  | nil => exact d.elim
  | cons p l =>
    cases l with
    | cons p' l' => cases p <;> exact d.elim
    | nil =>
      cases p <;> try exact d.elim
      rename_i a i h
      obtain ⟨bs, h0, q⟩ := d
      obtain ⟨xs, h3, l⟩ := R.obj i _ _ h h0
      have e := repL_bls l
      subst e
      exact ⟨a, bs, rfl, .of h3, k r H S _ _ .refl R (.bl _) q⟩
theorem c_any (hc : X.calm = true) (hg : Gl X "any") (hm : X.mg "any" = none) (ha : XA X (e :: es) dA) (he : starEach (e :: es) X.env = (false, eval e X.env) :: starEach es X.env := by rfl) (hpl : (backTo pos (starEach es X.env)).any (·.1) = false := by rfl) : XE X (.Call (.Name "any" p) (e :: es) [] pos) (dCB (vAny fun bs => bs.any id) dA) :=
  xe_callB (cr_any hc) any_sim hg hm (by decide +kernel) ha (by decide) (by decide) he hpl
theorem c_all (hc : X.calm = true) (hg : Gl X "all") (hm : X.mg "all" = none) (ha : XA X (e :: es) dA) (he : starEach (e :: es) X.env = (false, eval e X.env) :: starEach es X.env := by rfl) (hpl : (backTo pos (starEach es X.env)).any (·.1) = false := by rfl) : XE X (.Call (.Name "all" p) (e :: es) [] pos) (dCB (vAny fun bs => bs.all id) dA) :=
  xe_callB (cr_all hc) any_sim hg hm (by decide +kernel) ha (by decide) (by decide) he hpl
def vSum (xs : List W) (S : Sto) (Q : WK) : Prop := match xs with
  | [.ref i] => ∃ bs : List Int, S[i]? = some (.lst (bs.map W.int)) ∧ Q (.int bs.sum) S
  | _ => False
theorem sum_sim {K : Fg} : SimC K (rSum K) vSum := by
  intro r H S xs ws Q Q0 R l d k
  cases l with
  | nil => exact d.elim
  | cons p l =>
    cases l with
    | cons p' l' => cases p <;> exact d.elim
    | nil =>
      cases p <;> try exact d.elim
      rename_i a i h
      obtain ⟨bs, h0, q⟩ := d
      obtain ⟨xs, h3, l⟩ := R.obj i _ _ h h0
      have e := repL_ints l
      subst e
      exact ⟨a, bs, rfl, .of h3, k r H S _ _ .refl R (.int _) q⟩
theorem c_sum (hc : X.calm = true) (hg : Gl X "sum") (hm : X.mg "sum" = none) (ha : XA X (e :: es) dA) (he : starEach (e :: es) X.env = (false, eval e X.env) :: starEach es X.env := by rfl) (hpl : (backTo pos (starEach es X.env)).any (·.1) = false := by rfl) : XE X (.Call (.Name "sum" p) (e :: es) [] pos) (dCB vSum dA) :=
  xe_callB (cr_sum hc) sum_sim hg hm (by decide +kernel) ha (by decide) (by decide) he hpl
/-! ### methods -/
variable {apos cpos : Pos}
def vAppend (x : W) (ws : List W) (S : Sto) (Q : WK) : Prop := match x, ws with
  | .ref i, [y] => ∃ zs, S[i]? = some (.lst zs) ∧ zs.length < sizeLine ∧ Q .non (S.set i (.lst (zs ++ [y])))
  | _, _ => False
theorem append_sim {K : Fg} : SimM K rAppend vAppend := by
  intro r H S x xs wx ws Q Q0 R px l d k
  cases px <;> try (cases l <;> exact d.elim)
  rename_i a i h
  cases l with
  | nil => exact d.elim
  | cons p l =>
    cases l with
    | cons p' l' => exact d.elim
    | nil =>
      obtain ⟨zs, h0, hz, q⟩ := d
      obtain ⟨xs, h3, l⟩ := R.obj i _ _ h h0
      exact ⟨a, xs, _, rfl, rfl, h3, by rw [l.length]; exact hz, k r _ _ _ _ (ext_wr h h3 trivial) (wr_lst R h h3 (l.app (.one p))) .non q⟩
theorem m_append {dr : DA} (ho : XE X o d0) (ha : XA X (e :: es) dr) (hbase : attributeBase o "append" X.env (eval o X.env) = eval o X.env := by rfl)
    (hfew : ((backTo cpos (starEach (e :: es) X.env)).all (fun x => !x.1) && (backToKw cpos (keywordEach [] X.env)).all (fun x => x.1.isSome)
      && decide ((e :: es).length + ([] : List Keyword).length + (if ([] : List Keyword).isEmpty then 0 else 1) < 30)) = true := by rfl)
    (hline : (apos.endLine == cpos.line) = true := by rfl) (hs : starEach (e :: es) X.env = (false, eval e X.env) :: starEach es X.env := by rfl) (hplain : (backTo cpos (starEach es X.env)).any (·.1) = false := by rfl) :
    XE X (.Call (.Attribute o "append" apos) (e :: es) [] cpos) (dBM "list" vAppend d0 dr) :=
  xe_bm PySem.F.plainAttrs_list PySem.F.slot_list_append PySem.F.type_list_append mt_append append_sim ho ha hbase hfew hline hs hplain
def vPop0 (x : W) (ws : List W) (S : Sto) (Q : WK) : Prop := match x, ws with
  | .ref i, [] => ∃ zs y, S[i]? = some (.lst zs) ∧ zs[zs.length - 1]? = some y ∧ Q y (S.set i (.lst zs.dropLast))
  | _, _ => False
theorem pop0_sim {K : Fg} : SimM K rPop vPop0 := by
  intro r H S x xs wx ws Q Q0 R px l d k
  cases px <;> try (cases l <;> exact d.elim)
  rename_i a i h
  cases l with
  | cons p l => exact d.elim
  | nil =>
    obtain ⟨zs, y, h0, hy, q⟩ := d
    obtain ⟨xs, h3, l⟩ := R.obj i _ _ h h0
    obtain ⟨v, hv, pv⟩ := l.get hy
    exact ⟨a, xs, v, rfl, rfl, h3, by rw [l.length]; exact hv, k r _ _ _ _ (ext_wr h h3 trivial) (wr_lst R h h3 l.dropLast) (pv.mono (ext_wr h h3 trivial)) q⟩
theorem m_pop0 (ho : XE X o d0) (hbase : attributeBase o "pop" X.env (eval o X.env) = eval o X.env := by rfl) (hline : (apos.endLine == cpos.line) = true := by rfl) :
    XE X (.Call (.Attribute o "pop" apos) [] [] cpos) (dBM0 "list" vPop0 d0) :=
  xe_bm0 PySem.F.plainAttrs_list PySem.F.slot_list_pop PySem.F.type_list_pop mt_pop pop0_sim ho hbase hline
def vPop1 (x : W) (ws : List W) (S : Sto) (Q : WK) : Prop := match x, ws with
  | .ref i, [.int n] => ∃ zs j y, S[i]? = some (.lst zs) ∧ -(2 ^ 63) ≤ n ∧ n < 2 ^ 63 ∧ ixN zs.length n = some j ∧ zs[j]? = some y ∧ Q y (S.set i (.lst (zs.eraseIdx j)))
  | _, _ => False
theorem pop1_sim {K : Fg} : SimM K rPopAt vPop1 := by
  intro r H S x xs wx ws Q Q0 R px l d k
  cases px <;> try (cases l <;> exact d.elim)
  rename_i a i h
  cases l with
  | nil => exact d.elim
  | cons p l =>
    cases l with
    | cons p' l' => cases p <;> exact d.elim
    | nil =>
      cases p <;> try exact d.elim
      rename_i n
      obtain ⟨zs, j, y, h0, n1, n2, hj, hy, q⟩ := d
      obtain ⟨xs, h3, l⟩ := R.obj i _ _ h h0
      obtain ⟨v, hv, pv⟩ := l.get hy
      exact ⟨a, xs, n, j, v, rfl, rfl, h3, n1, n2, by rw [l.length]; exact (ixN_seq hj).1, hv, k r _ _ _ _ (ext_wr h h3 trivial) (wr_lst R h h3 (l.eraseIdx j)) (pv.mono (ext_wr h h3 trivial)) q⟩
theorem m_pop1 {dr : DA} (ho : XE X o d0) (ha : XA X (e :: es) dr) (hbase : attributeBase o "pop" X.env (eval o X.env) = eval o X.env := by rfl)
    (hfew : ((backTo cpos (starEach (e :: es) X.env)).all (fun x => !x.1) && (backToKw cpos (keywordEach [] X.env)).all (fun x => x.1.isSome)
      && decide ((e :: es).length + ([] : List Keyword).length + (if ([] : List Keyword).isEmpty then 0 else 1) < 30)) = true := by rfl)
    (hline : (apos.endLine == cpos.line) = true := by rfl) (hs : starEach (e :: es) X.env = (false, eval e X.env) :: starEach es X.env := by rfl) (hplain : (backTo cpos (starEach es X.env)).any (·.1) = false := by rfl) :
    XE X (.Call (.Attribute o "pop" apos) (e :: es) [] cpos) (dBM "list" vPop1 d0 dr) :=
  xe_bm PySem.F.plainAttrs_list PySem.F.slot_list_pop PySem.F.type_list_pop mt_popAt pop1_sim ho ha hbase hfew hline hs hplain
def vJoin (x : W) (ws : List W) (S : Sto) (Q : WK) : Prop := match x, ws with
  | .str a, [w] => ∃ ys : List Str, seqOf S w = some (ys.map W.str) ∧ (ys.map (·.length)).sum + ys.length * a.length ≤ 16777216 ∧ Q (.str (Txt.join a ys)) S
  | _, _ => False
theorem join_sim {K : Fg} : SimM K (fun x xs H Q => ∃ a p, ∃ ys : List Str, x = .str a ∧ xs = [.ref p] ∧ (SqL K H p (ys.map V.str) ∨ SqT K H p (ys.map V.str)) ∧
    (ys.map (·.length)).sum + ys.length * a.length ≤ 16777216 ∧ Q (.str (Txt.join a ys)) H) vJoin := by
  intro r H S x xs wx ws Q Q0 R px l d k
  cases px <;> try (cases l <;> exact d.elim)
  cases l with
  | nil => exact d.elim
  | cons p l =>
    cases l with
    | cons p' l' => exact d.elim
    | nil =>
      obtain ⟨ys, h0, hz, q⟩ := d
      obtain ⟨a, xs, rfl, hq, l⟩ := seqOf_sim R p h0
      have e := repL_strs l
      subst e
      exact ⟨_, a, ys, rfl, rfl, hq, hz, k r H S _ _ .refl R (.str _) q⟩
theorem m_join {dr : DA} (ho : XE X o d0) (ha : XA X (e :: es) dr) (hbase : attributeBase o "join" X.env (eval o X.env) = eval o X.env := by rfl)
    (hfew : ((backTo cpos (starEach (e :: es) X.env)).all (fun x => !x.1) && (backToKw cpos (keywordEach [] X.env)).all (fun x => x.1.isSome)
      && decide ((e :: es).length + ([] : List Keyword).length + (if ([] : List Keyword).isEmpty then 0 else 1) < 30)) = true := by rfl)
    (hline : (apos.endLine == cpos.line) = true := by rfl) (hs : starEach (e :: es) X.env = (false, eval e X.env) :: starEach es X.env := by rfl) (hplain : (backTo cpos (starEach es X.env)).any (·.1) = false := by rfl) :
    XE X (.Call (.Attribute o "join" apos) (e :: es) [] cpos) (dBM "str" vJoin d0 dr) :=
  xe_bm PySem.F.plainAttrs_str PySem.F.slot_str_join PySem.F.type_str_join mt_join join_sim ho ha hbase hfew hline hs hplain
end
end DL

/-! DLe: sorted, calls of defs by position and by keywords. -/
namespace DL
open PySem PySem.Spec PyProof.Rows L2

/-! ### sorted, of data of any kind -/
def rSortD (K : Fg) : List V → Hp → VK → Prop := fun vs H Q => ∃ (a : Addr) (bs : List (V × DL.W)), vs = [.ref a] ∧ SqL K H a (bs.map (·.1)) ∧ (∀ b ∈ bs, Dp K H b.1 (datW b.2)) ∧
  PySem.W.AllAlike (bs.map fun b => datW b.2) ∧ PySem.W.Sortable (bs.map fun b => datW b.2) ∧ (∀ b ∈ bs, (datW b.2).depth ≤ 60) ∧
  ∀ p, H p = none → Q (.ref p) (upd H p (.lst ((bs.mergeSort (PySem.W.dataLe false fun b => datW b.2)).map (·.1))))
theorem each_vals : ∀ {bs : List (V × DL.W)} {us : List Value}, Vals (bs.map (·.1)) us → PySem.W.EachIs (fun (v : Value) (b : V × DL.W) => RelV b.1 v) us bs
  | [], _, .nil => .nil
  | b :: bs, _, .cons r t => .cons r (each_vals t)
theorem vals_each : ∀ {bs : List (V × DL.W)} {us : List Value}, PySem.W.EachIs (fun (v : Value) (b : V × DL.W) => RelV b.1 v) us bs → Vals (bs.map (·.1)) us
  | _, _, .nil => .nil
  | _, _, .cons r t => .cons r (vals_each t)
section
variable {X : Cx}
theorem cr_sortD (hu : X.A.units + 64 < cLine) : CallR X (.builtin "sorted") (rSortD X.K) := by
  intro pins s σ H vs us Q I r h
  obtain ⟨a, bs, rfl, hs, hd, al, so, dp, q⟩ := h
  obtain ⟨its, rv, hl, hz⟩ := I.list hs
  rw [Vals.ref1 r]
  have e := each_vals rv
  have er : PySem.W.EachIs (fun (v : Value) (b : V × DL.W) => ∃ as, Reads s.heap v (datW b.2) as) its bs := by
    have go : ∀ {cs : List (V × DL.W)} {ws : List Value}, (∀ b ∈ cs, b ∈ bs) → PySem.W.EachIs (fun (v : Value) (b : V × DL.W) => RelV b.1 v) ws cs → PySem.W.EachIs (fun (v : Value) (b : V × DL.W) => ∃ as, Reads s.heap v (datW b.2) as) ws cs := by
      intro cs ws hm h
      induction h with
      | nil => exact .nil
      | cons r t ih => exact .cons (Dp.reads I _ _ _ (hd _ (hm _ List.mem_cons_self)) r) (ih fun b hb => hm b (List.mem_cons_of_mem _ hb))
    exact go (fun _ h => h) e
  have hlen : bs.length ≤ sizeLine := by
    rw [List.length_map] at hz
    exact hz
  refine PySem.W.sorted_data hl.isList e er (by exact al) (by exact so) hlen (fun b hb => by have := dp b hb; omega) fun out ho eo => ?_
  obtain ⟨ep, he'⟩ := PyProof.Rows.sortedAll_at s.heap its (List.toArray out)
  have vo := vals_each eo
  exact ⟨.ref _, upd H (s.heap.objs.size + 1) (.lst ((bs.mergeSort (PySem.W.dataLe false fun b => datW b.2)).map (·.1))), I.laid (t' := s.toks) (fun _ _ => PyProof.Rows.sortedAll_old) (Nat.le_succ _)
    ⟨by rw [List.length_map, List.length_mergeSort]; exact hlen, out, ep, vo, he'⟩, rfl, q _ (I.hok.fresh (Nat.le_succ _))⟩
end
def leW (a b : DL.W) : Bool := PySem.W.dataLe false datW a b
def vSorted (xs : List DL.W) (S : Sto) (Q : WK) : Prop := match xs with
  | [.ref i] => ∃ ws, S[i]? = some (.lst ws) ∧ W.pureL ws = true ∧ PySem.W.AllAlike (ws.map datW) ∧ PySem.W.Sortable (ws.map datW) ∧ (∀ w ∈ ws, (datW w).depth ≤ 60) ∧ Q (.ref S.length) (S ++ [.lst (ws.mergeSort leW)])
  | [.lit ws] => W.pureL ws = true ∧ PySem.W.AllAlike (ws.map datW) ∧ PySem.W.Sortable (ws.map datW) ∧ (∀ w ∈ ws, (datW w).depth ≤ 60) ∧ Q (.ref S.length) (S ++ [.lst (ws.mergeSort leW)])
  | _ => False
theorem zip_fst {α β : Type} : ∀ {xs : List α} {ys : List β}, xs.length = ys.length → (xs.zip ys).map (·.1) = xs
  | [], [], _ => rfl
  | [], _ :: _, h => by cases h
  | _ :: _, [], h => by cases h
  | x :: xs, y :: ys, h => by
    show x :: (xs.zip ys).map (·.1) = x :: xs
    rw [zip_fst (Nat.succ.inj h)]
theorem zip_snd {α β : Type} : ∀ {xs : List α} {ys : List β}, xs.length = ys.length → (xs.zip ys).map (·.2) = ys
  | [], [], _ => rfl
  | [], _ :: _, h => by cases h
  | _ :: _, [], h => by cases h
  | x :: xs, y :: ys, h => by
    show y :: (xs.zip ys).map (·.2) = y :: ys
    rw [zip_snd (Nat.succ.inj h)]
theorem repL_zip {K : Fg} {r : List Addr} {H : Hp} : ∀ {vs : List V} {ws : List DL.W}, RepL K r H vs ws → ∀ b ∈ vs.zip ws, Rep K r H b.1 b.2
  | _, _, .nil => fun b hb => nomatch hb
  | _, _, .cons h l => fun b hb => by
    rcases List.mem_cons.mp hb with e | m
    · rw [e]
      exact h
    · exact repL_zip l b m
theorem repL_of_pairs {K : Fg} {r : List Addr} {H : Hp} : ∀ {bs : List (V × DL.W)}, (∀ b ∈ bs, Rep K r H b.1 b.2) → RepL K r H (bs.map (·.1)) (bs.map (·.2))
  | [], _ => .nil
  | b :: bs, h => .cons (h b List.mem_cons_self) (repL_of_pairs fun c hc => h c (List.mem_cons_of_mem _ hc))
theorem pureL_mem {ws : List DL.W} (h : W.pureL ws = true) : ∀ w ∈ ws, w.pure = true := by
  induction ws with
  | nil => intro w hw; cases hw
  | cons u us ih =>
    have b : (u.pure && W.pureL us) = true := h
    rw [Bool.and_eq_true] at b
    intro w hw
    rcases List.mem_cons.mp hw with e | m
    · rw [e]; exact b.1
    · exact ih b.2 w m
theorem sorted_sim {K : Fg} : SimC K (rSortD K) vSorted := by
  intro r H S xs ws Q Q0 R l d k
  have go : ∀ {a : Addr} {vs : List V} {us : List DL.W}, SqL K H a vs → RepL K r H vs us → W.pureL us = true → PySem.W.AllAlike (us.map datW) → PySem.W.Sortable (us.map datW) → (∀ w ∈ us, (datW w).depth ≤ 60) → Q (.ref S.length) (S ++ [.lst (us.mergeSort leW)]) → rSortD K [.ref a] H Q0 := by
    intro a vs us hs l hp al so dp q
    have hl := l.length
    have e1 := zip_fst hl
    have e2 := zip_snd hl
    have e3 : (vs.zip us).map (fun b => datW b.2) = us.map datW := by
      have e5 : (vs.zip us).map (fun b => datW b.2) = ((vs.zip us).map (·.2)).map datW := by
        rw [List.map_map]
        rfl
      rw [e5, e2]
    refine ⟨a, vs.zip us, rfl, by rw [e1]; exact hs, fun b hb => dp_of (repL_zip l b hb) (pureL_mem hp _ (by rw [← e2]; exact List.mem_map_of_mem hb)), by rw [e3]; exact al, by rw [e3]; exact so, fun b hb => dp _ (by rw [← e2]; exact List.mem_map_of_mem hb), fun p hp' => ?_⟩
    have e4 : ((vs.zip us).mergeSort (PySem.W.dataLe false fun b => datW b.2)).map (·.2) = us.mergeSort leW := by
      have z := List.map_mergeSort (r := PySem.W.dataLe false fun b : V × DL.W => datW b.2) (s := leW) (f := fun b : V × DL.W => b.2) (l := vs.zip us) fun x _ y _ => rfl
      rw [z, e2]
    have rl : RepL K r H (((vs.zip us).mergeSort (PySem.W.dataLe false fun b => datW b.2)).map (·.1)) (us.mergeSort leW) := by
      rw [← e4]
      exact repL_of_pairs fun b hb => repL_zip l b ((List.mergeSort_perm _ _).mem_iff.mp hb)
    exact k _ _ _ _ _ (ext_mem hp') (new_lst R hp' rl) (rep_mem R) q
  cases l with
  | nil => exact d.elim
  | cons p l =>
    cases l with
    | cons p' l' => cases p <;> exact d.elim
    | nil =>
      cases p <;> try exact d.elim
      · rename_i a vs us h l
        obtain ⟨h1, h2, h3, h4, q⟩ := d
        exact go h.1 l h1 h2 h3 h4 q
      · rename_i a i h
        obtain ⟨us, h0, h1, h2, h3, h4, q⟩ := d
        obtain ⟨vs, h5, l⟩ := R.obj i _ _ h h0
        exact go (.of h5) l h1 h2 h3 h4 q
section
variable {X : Cx} {e : Expr} {es : List Expr} {dA : DA} {pos p : Pos}
theorem c_sorted (hu : X.A.units + 64 < cLine) (hg : Gl X "sorted") (hm : X.mg "sorted" = none) (ha : XA X (e :: es) dA) (he : starEach (e :: es) X.env = (false, eval e X.env) :: starEach es X.env := by rfl) (hpl : (backTo pos (starEach es X.env)).any (·.1) = false := by rfl) : XE X (.Call (.Name "sorted" p) (e :: es) [] pos) (dCB vSorted dA) :=
  xe_callB (cr_sortD hu) sorted_sim hg hm (by decide +kernel) ha (by decide) (by decide) he hpl
end

/-! ### defs: what they promise, how they are called -/
structure TDef (P : Program) (w : World) (K : Fg) (mg : Str → Option Value) (base : Heap) (k : Nat) (x : Str) (st : Stmt) (ps : List Str) (F : DSpec) : Prop where
  ex : ∃ f fd, FnOk P w K mg base CX0 k f fd ps (spOf K F) ∧ mg x = some (.ref f) ∧ PySem.W.keepIn K (.ref f) = true ∧ Binds K fd ps [] ∧
    ∃ (kV doc pm : Value) (an : Option Addr) (cdv ct : Value), fd = PySem.W.fnOf x x (defArgs st) (defBody st) (defScope st) .none kV doc pm an cdv ct
def permL {α : Type} (perm : List Nat) (l : List α) : List α := perm.filterMap fun i => l[i]?
/-- how n values by position and those of the keywords ks come to the parameters -/
structure KPat (x : Str) (st : Stmt) (ps : List Str) (n : Nat) (ks : List Str) (perm : List Nat) : Prop where
  bind : ∀ (kV doc pm : Value) (an : Option Addr) (cdv ct : Value) (us ws : List Value), us.length = n → ws.length = ks.length →
    bindArgs (PySem.W.fnOf x x (defArgs st) (defBody st) (defScope st) .none kV doc pm an cdv ct) ⟨us, ks.zip ws⟩ = pure (ps.zip (permL perm (us ++ ws)))
  ne : ps ≠ []
theorem valsPerm {vs : List V} {us : List Value} (r : Vals vs us) : ∀ perm : List Nat, Vals (permL perm vs) (permL perm us)
  | [] => .nil
  | i :: perm => by
    unfold permL
    cases h : vs[i]? with
    | none =>
      have h2 := r.none_of h
      rw [List.filterMap_cons_none h, List.filterMap_cons_none h2]
      exact valsPerm r perm
    | some v =>
      obtain ⟨u, h2, q⟩ := r.get h
      rw [List.filterMap_cons_some h, List.filterMap_cons_some h2]
      exact .cons q (valsPerm r perm)
theorem RepL.perm {K : Fg} {r : List Addr} {H : Hp} {vs : List V} {ws : List DL.W} (l : RepL K r H vs ws) : ∀ perm : List Nat, RepL K r H (permL perm vs) (permL perm ws)
  | [] => .nil
  | i :: perm => by
    unfold permL
    cases h : ws[i]? with
    | none =>
      have h2 : vs[i]? = none := by
        rw [List.getElem?_eq_none_iff, l.length]
        exact List.getElem?_eq_none_iff.mp h
      rw [List.filterMap_cons_none h, List.filterMap_cons_none h2]
      exact RepL.perm l perm
    | some v =>
      obtain ⟨u, h2, q⟩ := l.get h
      rw [List.filterMap_cons_some h, List.filterMap_cons_some h2]
      exact .cons q (RepL.perm l perm)
open Classical in
theorem kb_of {K : Fg} {x : Str} {st : Stmt} {ps ks : List Str} {n : Nat} {perm : List Nat} {fd : FuncData} (h : KPat x st ps n ks perm) (hf : ∃ (kV doc pm : Value) (an : Option Addr) (cdv ct : Value), fd = PySem.W.fnOf x x (defArgs st) (defBody st) (defScope st) .none kV doc pm an cdv ct) :
    KBinds K fd ps ks (fun us ws => if us.length = n ∧ ws.length = ks.length then permL perm (us ++ ws) else []) (fun us ws => if us.length = n ∧ ws.length = ks.length then permL perm (us ++ ws) else []) := by
  obtain ⟨kV, doc, pm, an, cdv, ct, rfl⟩ := hf
  refine ⟨fun s us ws _ hl => ?_, fun {vs us zs ws} r1 r2 => ?_⟩
  · by_cases c : us.length = n ∧ ws.length = ks.length
    · rw [if_pos c]
      exact .of_eq (h.bind kV doc pm an cdv ct us ws c.1 c.2)
    · rw [if_neg c] at hl
      exact absurd (List.eq_nil_of_length_eq_zero hl.symm) h.ne
  · rw [r1.length, r2.length]
    split
    · exact valsPerm (r1.append r2) perm
    · exact .nil
section
variable {X : Cx} {pos p kpos : Pos} {e : Expr} {es : List Expr} {kws : List Keyword} {x : Str} {de : DE} {da dk : DA} {k j : Nat} {st : Stmt} {ps ks : List Str} {F : DSpec}
theorem c_def (G : TDef X.prog X.w X.K X.mg X.base k x st ps F) (hr : Room j X.A) (ha : XA X (e :: es) da) (hk : k ≤ j := by decide) (hg : Gl X x := by rfl)
    (hdb : (x == ("__debug__" : Str)) = false := by decide) (he : starEach (e :: es) X.env = (false, eval e X.env) :: starEach es X.env := by rfl) (hpl : (backTo pos (starEach es X.env)).any (·.1) = false := by rfl) :
    XE X (.Call (.Name x p) (e :: es) [] pos) (dCall F da) := by
  obtain ⟨f, fd, h1, h2, h3, h4, _⟩ := G.ex
  exact xe_call h1 (hr.mono hk) hg h2 h3 h4 ha hdb he hpl
theorem c_def0 (G : TDef X.prog X.w X.K X.mg X.base k x st ps F) (hr : Room j X.A) (hk : k ≤ j := by decide) (hg : Gl X x := by rfl) (hdb : (x == ("__debug__" : Str)) = false := by decide) : XE X (.Call (.Name x p) [] [] pos) (dCall F aNil) := by
  obtain ⟨f, fd, h1, h2, h3, h4, _⟩ := G.ex
  exact xe_call0 h1 (hr.mono hk) hg h2 h3 h4 hdb
structure XK (X : Cx) (kws : List Keyword) (d : DA) : Prop where
  ex : ∃ t, PK X kws t ∧ SimA X.K t d
theorem xk_nil : XK X [] aNil := ⟨_, pk_nil, fun r H S s env Q Q0 R E d k => k r H S [] [] .refl R .nil d⟩
theorem xk_cons {nm : Option Str} (ha : XE X e de) (hr : XK X kws dk) : XK X (⟨nm, e, kpos⟩ :: kws) (aCons de dk) := by
  obtain ⟨ta, pa, sa⟩ := ha.ex
  obtain ⟨tr, pr, sr⟩ := hr.ex
  exact ⟨_, pk_cons pa pr, sim_cons sa sr⟩
theorem pe_callK0 {CX : CXT} {f : Addr} {fd : FuncData} {sp : Sp} {E : L2.XK} {tk : TA} {g : List Value → List Value → List Value} {gV : List V → List V → List V} (G : FnOk X.prog X.w X.K X.mg X.base CX k f fd ps sp) (hr : Room k X.A) (hg : Gl X x) (hm : X.mg x = some (.ref f)) (hk : PySem.W.keepIn X.K (.ref f) = true) (hb : KBinds X.K fd ps ks g gV) (hx : Passes CX X E)
    (hkw : PK X kws tk) (hall : (backToKw pos (keywordEach kws X.env)).all (·.1.isSome) = true := by rfl) (hks : (backToKw pos (keywordEach kws X.env)).filterMap (·.1) = ks := by rfl)
    (hdb : (x == ("__debug__" : Str)) = false := by decide) (hpl : ((backTo pos (starEach [] X.env)).any (·.1) || (backToKw pos (keywordEach kws X.env)).any (·.1.isNone)) = false := by rfl) :
    PE X (.Call (.Name x p) [] kws pos) (tCallK sp gV E tNil tk) := by
  refine ⟨fun pins s σ H Q I h => ?_⟩
  refine wpAny_Call_Name_kw (ld_glob I hg hm ?_ hdb)
  refine PySem.W.callWith_KW0 (h₀ := X.base) I.ok.mod.kin hk hall (thn (hkw.run pos pins s σ H _ I h) fun ws s2 ⟨zs, H2, I2, rz, q2⟩ => ⟨I2.kIn, ?_⟩) hpl
  rw [hks]
  exact run_fnk (us := []) (vs := []) G hr hb hx I2 .nil rz q2
def dCallK (F : DSpec) (perm : List Nat) (n m : Nat) (da dk : DA) : DE := fun env S Q => da env S fun us S1 => dk env S1 fun ws S2 => us.length = n ∧ ws.length = m ∧ F (permL perm (us ++ ws)) S2 Q
theorem sim_callK {K : Fg} {n : Nat} {perm : List Nat} {ta tk : TA} {m : Nat} (hm : m = ks.length) (sa : SimA K ta da) (sk : SimA K tk dk) :
    Sim K (tCallK (spOf K F) (fun us ws => if us.length = n ∧ ws.length = ks.length then permL perm (us ++ ws) else []) E0 ta tk) (dCallK F perm n m da dk) := fun r H S s env Q Q0 R E d k =>
  sa r H S s env _ _ R E d fun r1 H1 S1 vs ws e1 R1 q1 d1 => sk r1 H1 S1 s env _ _ R1 (E.mono e1) d1 fun r2 H2 S2 us zs e2 R2 q2 d2 => by
    have l1 := q1.length
    have l2 := q2.length
    refine ⟨r2, S2, permL perm (ws ++ zs), Q, R2, ?_, d2.2.2, fun r3 H3 S3 v w e3 => k r3 H3 S3 v w ((e1.trans e2).trans e3)⟩
    show RepL K r2 H2 (if vs.length = n ∧ us.length = ks.length then permL perm (vs ++ us) else []) _
    rw [if_pos ⟨by rw [l1]; exact d2.1, by rw [l2, ← hm]; exact d2.2.1⟩]
    exact ((q1.mono e2).app q2).perm perm
theorem c_defk {n m : Nat} {perm : List Nat} (G : TDef X.prog X.w X.K X.mg X.base k x st ps F) (kb : KPat x st ps n ks perm) (hr : Room j X.A) (ha : XA X (e :: es) da) (hkw : XK X kws dk) (hm : m = ks.length := by rfl) (hk : k ≤ j := by decide) (hg : Gl X x := by rfl)
    (hall : (backToKw pos (keywordEach kws X.env)).all (·.1.isSome) = true := by rfl) (hks : (backToKw pos (keywordEach kws X.env)).filterMap (·.1) = ks := by rfl)
    (hdb : (x == ("__debug__" : Str)) = false := by decide) (he : starEach (e :: es) X.env = (false, eval e X.env) :: starEach es X.env := by rfl)
    (hpl : ((backTo pos (starEach (e :: es) X.env)).any (·.1) || (backToKw pos (keywordEach kws X.env)).any (·.1.isNone)) = false := by rfl) : XE X (.Call (.Name x p) (e :: es) kws pos) (dCallK F perm n m da dk) := by
  obtain ⟨f, fd, h1, h2, h3, h4, h5⟩ := G.ex
  obtain ⟨ta, pa, sa⟩ := ha.ex
  obtain ⟨tk, pk, sk⟩ := hkw.ex
  exact ⟨_, pe_callK h1 (hr.mono hk) hg h2 h3 (kb_of kb h5) pass0 pa pk hall hks hdb he hpl, sim_callK hm sa sk⟩
theorem c_defk0 {n m : Nat} {perm : List Nat} (G : TDef X.prog X.w X.K X.mg X.base k x st ps F) (kb : KPat x st ps n ks perm) (hr : Room j X.A) (hkw : XK X kws dk) (hm : m = ks.length := by rfl) (hk : k ≤ j := by decide) (hg : Gl X x := by rfl)
    (hall : (backToKw pos (keywordEach kws X.env)).all (·.1.isSome) = true := by rfl) (hks : (backToKw pos (keywordEach kws X.env)).filterMap (·.1) = ks := by rfl)
    (hdb : (x == ("__debug__" : Str)) = false := by decide) (hpl : ((backTo pos (starEach [] X.env)).any (·.1) || (backToKw pos (keywordEach kws X.env)).any (·.1.isNone)) = false := by rfl) : XE X (.Call (.Name x p) [] kws pos) (dCallK F perm n m aNil dk) := by
  obtain ⟨f, fd, h1, h2, h3, h4, h5⟩ := G.ex
  obtain ⟨tk, pk, sk⟩ := hkw.ex
  exact ⟨_, pe_callK0 h1 (hr.mono hk) hg h2 h3 (kb_of kb h5) pass0 pk hall hks hdb hpl, sim_callK hm (fun r H S s env Q Q0 R E d k => k r H S [] [] .refl R .nil d) sk⟩
end
/-- a def as it stands behind the top -/
structure TFun (K : Fg) (mg : Str → Option Value) (x : Str) (st : Stmt) (ps : List Str) : Prop where
  ex : ∃ f fd, Fun K x x st f fd ∧ mg x = some (.ref f) ∧ Binds K fd ps []
section
variable {P : Program} {w : World} {K : Fg} {mg : Str → Option Value} {base : Heap}
abbrev endsW (n : Nat) (Q : WK) : DEnds := { nx := fun _ S' => Ends0 n Q .non S', rt := Ends0 n Q, bk := fun _ _ => False, ct := fun _ _ => False }
theorem TFun.ok {x : Str} {st : Stmt} {N ps : List Str} {k : Nat} {F : DSpec} {d : DS} (T : TFun K mg x st ps) (Sc : FnScope N ps (defScope st))
    (der : ∀ (f : Addr) (cdv : Value) (A : Around) (outer : List PySem.Env) (s : Shared) (H : Hp) (E : L2.XK), Room k (A.deeper (envOfC x (defScope st) s.heap.objs.size f cdv)) → XSs (cxOf CX0 P w K mg base N x (defScope st) f cdv A outer s H E).nox (defBody st) d)
    (len : ∀ ws S Q, F ws S Q → ws.length = ps.length) (vc : ∀ ws S Q, Closed S → F ws S Q → d (endsW S.length Q) (startW N.length ws) S) : TDef P w K mg base (k + 1) x st ps F := by
  obtain ⟨f, fd, h1, h2, h3⟩ := T.ex
  obtain ⟨_, _, kV, doc, pm, an, cdv, ct, _, e, _⟩ := h1.ex
  exact ⟨f, fd, fn_d h1 Sc len fun cdv A outer s H E hr => ⟨d, der f cdv A outer s H E hr, vc⟩, h2, h1.kp, h3, kV, doc, pm, an, cdv, ct, e⟩
end
end DL

/-! DLf: the denotations' equations, for rewriting. -/
namespace DL
open PySem PySem.Spec PyProof.Rows L2
section
variable {D : DEnds} {env : Slots} {S : Sto} {Q : WK} {QT : Bool → Sto → Prop} {QA : List DL.W → Sto → Prop} {QE : Slots → Sto → Prop} {t u : DS} {c : DT} {da db dd : DE} {dr : DA} {g : DG} {i j : Nat}
theorem e_seq : dSeq t u D env S = t { D with nx := u D } env S := rfl
theorem e_asg : dAsg da g D env S = da env S fun w S1 => g w env S1 D.nx := rfl
theorem e_nm {w : DL.W} : gNm i w env S QE = QE (env.set i (some w)) S := rfl
theorem e_op {d : DL.W → DL.W → Sto → WK → Prop} : dOp d da db env S Q = da env S fun x S1 => db env S1 fun y S2 => d x y S2 Q := rfl
theorem e_un {d : DL.W → Sto → WK → Prop} : dUn d da env S Q = da env S fun x S1 => d x S1 Q := rfl
theorem e_cb {d : List DL.W → Sto → WK → Prop} : dCB d dr env S Q = dr env S fun ws S1 => d ws S1 Q := rfl
theorem e_c {w : DL.W} : dC w env S Q = Q w S := rfl
theorem e_var {w : DL.W} (h : env[i]? = some (some w)) : dVar i env S Q = Q w S := by
  unfold dVar
  rw [h]
  exact propext ⟨fun ⟨w', e, q⟩ => by cases e; exact q, fun q => ⟨w, rfl, q⟩⟩
theorem e_ifs : dIfS c t u D env S = c env S fun b S1 => if b = true then t D env S1 else u D env S1 := rfl
theorem e_tru : dTru da env S QT = da env S fun w S1 => vTru w S1 fun b => QT b S1 := rfl
theorem e_B : dB da env S QT = da env S fun w S1 => ∃ c, w = .bl c ∧ QT c S1 := rfl
theorem e_drop : dDrop da D env S = da env S fun _ S1 => D.nx env S1 := rfl
theorem e_bm {T : String} {d : DL.W → List DL.W → Sto → WK → Prop} : dBM T d da dr env S Q = da env S fun x S1 => vTy T x S1 ∧ dr env S1 fun ws S2 => d x ws S2 Q := rfl
theorem e_bm0 {T : String} {d : DL.W → List DL.W → Sto → WK → Prop} : dBM0 T d da env S Q = da env S fun x S1 => vTy T x S1 ∧ d x [] S1 Q := rfl
theorem e_ret : dRet da D env S = da env S D.rt := rfl
theorem e_retN : dRetN D env S = D.rt .non S := rfl
theorem e_next : dNext D env S = D.nx env S := rfl
theorem e_break : dBreak D env S = D.bk env S := rfl
theorem e_cont : dCont D env S = D.ct env S := rfl
theorem e_nil : aNil env S QA = QA [] S := rfl
theorem e_cons : aCons da dr env S QA = da env S fun w S1 => dr env S1 fun ws S2 => QA (w :: ws) S2 := rfl
theorem e_tup : dTup dr env S Q = dr env S fun ws S1 => ws.length ≤ sizeLine ∧ Q (.tup ws) S1 := rfl
theorem e_lst : dLst dr env S Q = dr env S fun ws S1 => ws.length ≤ sizeLine ∧ Q (.ref S1.length) (S1 ++ [.lst ws]) := rfl
theorem e_sl {d : DL.W → Option Int → Option Int → Sto → WK → Prop} {dl dh : DO} : dSl d da dl dh env S Q = da env S fun x S1 => dl env S1 fun l S2 => dh env S2 fun u S3 => d x l u S3 Q := rfl
theorem e_onone {q : Option Int → Sto → Prop} : oNone env S q = q none S := rfl
theorem e_osome {q : Option Int → Sto → Prop} : oSome da env S q = da env S fun w S1 => ∃ i, w = .int i ∧ q (some i) S1 := rfl
theorem e_gsub {d : DL.W → DL.W → DL.W → Sto → (Sto → Prop) → Prop} {w : DL.W} : gSb da db d w env S QE = da env S fun o S1 => db env S1 fun i S2 => d o i w S2 fun S3 => QE env S3 := rfl
theorem e_call {F : DSpec} : dCall F dr env S Q = dr env S fun ws S1 => F ws S1 Q := rfl
theorem e_callk {F : DSpec} {perm : List Nat} {n m : Nat} {dk : DA} : dCallK F perm n m dr dk env S Q = dr env S fun us S1 => dk env S1 fun ws S2 => us.length = n ∧ ws.length = m ∧ F (permL perm (us ++ ws)) S2 Q := rfl
theorem e_and {b : DT} : dAndT c b env S QT = c env S fun k S1 => if k = true then b env S1 QT else QT false S1 := rfl
theorem e_or {b : DT} : dOrT c b env S QT = c env S fun k S1 => if k = true then QT true S1 else b env S1 QT := rfl
theorem e_not : dNotT c env S QT = c env S fun k S1 => QT (!k) S1 := rfl
theorem e_andv : dAndV da db env S Q = da env S fun w S1 => ∃ c, w = .bl c ∧ if c = true then db env S1 Q else Q (.bl false) S1 := rfl
theorem e_orv : dOrV da db env S Q = da env S fun w S1 => ∃ c, w = .bl c ∧ if c = true then Q (.bl true) S1 else db env S1 Q := rfl
theorem e_notv : dNotV da env S Q = da env S fun w S1 => ∃ c, w = .bl c ∧ Q (.bl (!c)) S1 := rfl
theorem e_if : dIf c da db env S Q = c env S fun k S1 => if k = true then da env S1 Q else db env S1 Q := rfl
theorem e_par {i j : Nat} : dPar i j dr D env S = dr env S fun ws S1 => ∃ v w, ws = [v, w] ∧ D.nx ((env.set i (some v)).set j (some w)) S1 := rfl
theorem e_for {di : DI} : dFor di g t D env S = di env S fun its still S1 => forW g t still its D env S1 := rfl
theorem e_comp {di : DI} {tt : DT} {vs : List Nat} : dComp di g tt dd vs env S Q = di env S fun its still S1 => compW g tt dd vs still env Q its [] S1 := rfl
theorem e_iseq {q : List DL.W → (Sto → Prop) → Sto → Prop} : iSeq da env S q = da env S fun w S1 => vSeqI w S1 q := rfl
theorem e_rng1 {q : List DL.W → (Sto → Prop) → Sto → Prop} : DL.iRng1 dr env S q = dr env S fun ws S1 => ∃ j : Int, ws = [.int j] ∧ -(2 ^ 62) ≤ j ∧ j < 2 ^ 62 ∧ q (rngW 0 j.toNat) (fun _ => True) S1 := rfl
theorem e_yes : dYes env S QT = QT true S := rfl
theorem e_gtp {n : Nat} {gs : DGs} {ws : List DL.W} : gTp n gs (.tup ws) env S QE = (ws.length = n ∧ gs ws env S QE) :=
  propext ⟨fun ⟨ws', e, h, q⟩ => by cases e; exact ⟨h, q⟩, fun ⟨h, q⟩ => ⟨ws, rfl, h, q⟩⟩
theorem e_gc {gs : DGs} {w : DL.W} {ws : List DL.W} : gC g gs (w :: ws) env S QE = g w env S fun env1 S1 => gs ws env1 S1 QE :=
  propext ⟨fun ⟨w', ws', e, q⟩ => by cases e; exact q, fun q => ⟨w, ws, rfl, q⟩⟩
theorem e_gn0 : gN0 [] env S QE = QE env S := propext ⟨fun ⟨_, q⟩ => q, fun q => ⟨rfl, q⟩⟩
/-! values -/
theorem e_addI {i j : Int} : vAdd (.int i) (.int j) S Q = Q (.int (i + j)) S := rfl
theorem e_addS {a b : Str} : vAdd (.str a) (.str b) S Q = (a.length + b.length ≤ sizeLine ∧ Q (.str (a ++ b)) S) := rfl
theorem e_addT {a b : List DL.W} : vAdd (.tup a) (.tup b) S Q = (a.length + b.length ≤ sizeLine ∧ Q (.tup (a ++ b)) S) := rfl
theorem e_addL {a b : List DL.W} (h : S[i]? = some (.lst a)) (h' : S[j]? = some (.lst b)) : vAdd (.ref i) (.ref j) S Q = (a.length + b.length ≤ sizeLine ∧ Q (.ref S.length) (S ++ [.lst (a ++ b)])) := by
  show (∃ a b, S[i]? = some (.lst a) ∧ S[j]? = some (.lst b) ∧ a.length + b.length ≤ sizeLine ∧ Q (.ref S.length) (S ++ [.lst (a ++ b)])) = _
  rw [h, h']
  exact propext ⟨fun ⟨a', b', e1, e2, q⟩ => by cases e1; cases e2; exact q, fun q => ⟨a, b, rfl, rfl, q⟩⟩
theorem e_i20 {f : Int → Int → DL.W} {a b : Int} : vI20 f (.int a) (.int b) S Q = Q (f a b) S := rfl
theorem e_i2 {C : Int → Int → Prop} {f : Int → Int → DL.W} {a b : Int} : vI2 C f (.int a) (.int b) S Q = (C a b ∧ Q (f a b) S) := rfl
theorem e_neg {a : Int} : vNeg (.int a) S Q = Q (.int (-a)) S := rfl
theorem e_cmpI {f : Int → Int → Bool} {f' : Str → Str → Bool} {a b : Int} : vCmp f f' (.int a) (.int b) S Q = Q (.bl (f a b)) S := rfl
theorem e_cmpS {f : Int → Int → Bool} {f' : Str → Str → Bool} {a b : Str} : vCmp f f' (.str a) (.str b) S Q = Q (.bl (f' a b)) S := rfl
theorem e_eqI {n : Bool} {a b : Int} : vEqG n (.int a) (.int b) S Q = Q (.bl (n ^^ decide (a = b))) S := rfl
theorem e_eqS {n : Bool} {a b : Str} : vEqG n (.str a) (.str b) S Q = Q (.bl (n ^^ decide (a = b))) S := rfl
theorem e_eqB {n : Bool} {a b : Bool} : vEqG n (.bl a) (.bl b) S Q = Q (.bl (n ^^ decide (a = b))) S := rfl
theorem e_ixT {ws : List DL.W} {k : Int} {w : DL.W} (h : atI ws k = some w) : vIx (.tup ws) (.int k) S Q = Q w S := by
  show (∃ w, atI ws k = some w ∧ Q w S) = _
  rw [h]
  exact propext ⟨fun ⟨w', e, q⟩ => by cases e; exact q, fun q => ⟨w, rfl, q⟩⟩
theorem e_ixLit {ws : List DL.W} {k : Int} {w : DL.W} (h : atI ws k = some w) : vIx (.lit ws) (.int k) S Q = Q w S := by
  show (∃ w, atI ws k = some w ∧ Q w S) = _
  rw [h]
  exact propext ⟨fun ⟨w', e, q⟩ => by cases e; exact q, fun q => ⟨w, rfl, q⟩⟩
theorem e_ixL {ws : List DL.W} {k : Int} {w : DL.W} (h0 : S[i]? = some (.lst ws)) (h : atI ws k = some w) : vIx (.ref i) (.int k) S Q = Q w S := by
  show (∃ ws w, S[i]? = some (.lst ws) ∧ atI ws k = some w ∧ Q w S) = _
  rw [h0]
  exact propext ⟨fun ⟨ws', w', e, e2, q⟩ => by cases e; rw [h] at e2; cases e2; exact q, fun q => ⟨ws, w, rfl, h, q⟩⟩
theorem e_ixS {z : Str} {k : Int} {c : Nat} (h : atI z.cps.toList k = some c) : vIx (.str z) (.int k) S Q = (z.length ≤ sizeLine ∧ Q (.str ⟨#[c]⟩) S) := by
  show (∃ c, z.length ≤ sizeLine ∧ atI z.cps.toList k = some c ∧ Q (.str ⟨#[c]⟩) S) = _
  rw [h]
  exact propext ⟨fun ⟨c', e, e2, q⟩ => by cases e2; exact ⟨e, q⟩, fun q => ⟨c, q.1, rfl, q.2⟩⟩
theorem e_set {ws : List DL.W} {k : Int} {m : Nat} {w : DL.W} {q : Sto → Prop} (h0 : S[i]? = some (.lst ws)) (h : ixN ws.length k = some m) : vSet (.ref i) (.int k) w S q = q (S.set i (.lst (ws.set m w))) := by
  show (∃ ws j, S[i]? = some (.lst ws) ∧ ixN ws.length k = some j ∧ q (S.set i (.lst (ws.set j w)))) = _
  rw [h0]
  exact propext ⟨fun ⟨ws', j', e, e2, q⟩ => by cases e; rw [h] at e2; cases e2; exact q, fun q => ⟨ws, m, rfl, h, q⟩⟩
theorem e_slT {ws : List DL.W} {lo hi : Option Int} : vSl (.tup ws) lo hi S Q = Q (.tup (cutW ws lo hi)) S := rfl
theorem e_slLit {ws : List DL.W} {lo hi : Option Int} : vSl (.lit ws) lo hi S Q = Q (.ref S.length) (S ++ [.lst (cutW ws lo hi)]) := rfl
theorem e_slS {z : Str} {lo hi : Option Int} : vSl (.str z) lo hi S Q = (z.length ≤ sizeLine ∧ Q (.str (cutS z lo hi)) S) := rfl
theorem e_slL {ws : List DL.W} {lo hi : Option Int} (h : S[i]? = some (.lst ws)) : vSl (.ref i) lo hi S Q = Q (.ref S.length) (S ++ [.lst (cutW ws lo hi)]) := by
  show (∃ ws, S[i]? = some (.lst ws) ∧ Q (.ref S.length) (S ++ [.lst (cutW ws lo hi)])) = _
  rw [h]
  exact propext ⟨fun ⟨ws', e, q⟩ => by cases e; exact q, fun q => ⟨ws, rfl, q⟩⟩
theorem e_lenS {z : Str} : vLen [.str z] S Q = (z.length ≤ sizeLine ∧ Q (.int z.length) S) := rfl
theorem ex_seq {p : List DL.W → Prop} {w : DL.W} {ws : List DL.W} (h : seqOf S w = some ws) : (∃ us, seqOf S w = some us ∧ p us) = p ws := by
  rw [h]
  exact propext ⟨fun ⟨ws', e, q⟩ => by cases e; exact q, fun q => ⟨ws, rfl, q⟩⟩
theorem e_lenT {ws : List DL.W} : vLen [.tup ws] S Q = Q (.int ws.length) S := ex_seq (p := fun us => Q (.int us.length) S) rfl
theorem e_lenLit {ws : List DL.W} : vLen [.lit ws] S Q = Q (.int ws.length) S := ex_seq (p := fun us => Q (.int us.length) S) rfl
theorem e_lenL {ws : List DL.W} (h : S[i]? = some (.lst ws)) : vLen [.ref i] S Q = Q (.int ws.length) S := ex_seq (p := fun us => Q (.int us.length) S) (seqOf_ref h)
theorem e_i1 {f : Int → DL.W} {a : Int} : vI1 f [.int a] S Q = Q (f a) S := rfl
theorem e_intI {a : Int} : vIntOf [.int a] S Q = Q (.int a) S := rfl
theorem e_intB {a : Bool} : vIntOf [.bl a] S Q = Q (.int (if a then 1 else 0)) S := rfl
theorem e_strI {a : Int} : vStrOf [.int a] S Q = (a.natAbs.log2 < 1920 ∧ Q (.str (toString a)) S) := rfl
theorem e_strS {a : Str} : vStrOf [.str a] S Q = Q (.str a) S := rfl
theorem e_listT {ws : List DL.W} : vList [.tup ws] S Q = Q (.ref S.length) (S ++ [.lst ws]) := ex_seq (p := fun us : List DL.W => Q (DL.W.ref S.length) (S ++ [O.lst us])) rfl
theorem e_listLit {ws : List DL.W} : vList [.lit ws] S Q = Q (.ref S.length) (S ++ [.lst ws]) := ex_seq (p := fun us : List DL.W => Q (DL.W.ref S.length) (S ++ [O.lst us])) rfl
theorem e_listL {ws : List DL.W} (h : S[i]? = some (.lst ws)) : vList [.ref i] S Q = Q (.ref S.length) (S ++ [.lst ws]) := ex_seq (p := fun us : List DL.W => Q (DL.W.ref S.length) (S ++ [O.lst us])) (seqOf_ref h)
theorem e_tupleT {ws : List DL.W} : vTuple [.tup ws] S Q = Q (.tup ws) S := ex_seq (p := fun us => Q (.tup us) S) rfl
theorem e_tupleL {ws : List DL.W} (h : S[i]? = some (.lst ws)) : vTuple [.ref i] S Q = Q (.tup ws) S := ex_seq (p := fun us => Q (.tup us) S) (seqOf_ref h)
theorem e_append {w : DL.W} {ws : List DL.W} (h : S[i]? = some (.lst ws)) : vAppend (.ref i) [w] S Q = (ws.length < sizeLine ∧ Q .non (S.set i (.lst (ws ++ [w])))) := by
  show (∃ zs, S[i]? = some (.lst zs) ∧ zs.length < sizeLine ∧ Q .non (S.set i (.lst (zs ++ [w])))) = _
  rw [h]
  exact propext ⟨fun ⟨ws', e, q⟩ => by cases e; exact q, fun q => ⟨ws, rfl, q⟩⟩
theorem e_pop0 {w : DL.W} {ws : List DL.W} (h : S[i]? = some (.lst (ws ++ [w]))) : vPop0 (.ref i) [] S Q = Q w (S.set i (.lst ws)) := by
  show (∃ zs y, S[i]? = some (.lst zs) ∧ zs[zs.length - 1]? = some y ∧ Q y (S.set i (.lst zs.dropLast))) = _
  rw [h]
  have e1 : (ws ++ [w])[(ws ++ [w]).length - 1]? = some w := by simp
  exact propext ⟨fun ⟨zs, y, e, e2, q⟩ => by cases e; rw [e1] at e2; cases e2; rw [List.dropLast_concat] at q; exact q, fun q => ⟨ws ++ [w], w, rfl, e1, by rw [List.dropLast_concat]; exact q⟩⟩
theorem e_tyL {ws : List DL.W} (h : S[i]? = some (.lst ws)) : vTy "list" (.ref i) S = True := by
  refine eq_true ?_
  exact .inl ⟨rfl, ws, h⟩
theorem e_tyS {z : Str} : vTy "str" (.str z) S = True := eq_true rfl
theorem e_truL {ws : List DL.W} {q : Bool → Prop} (h : S[i]? = some (.lst ws)) : vTru (.ref i) S q = q (!ws.isEmpty) := by
  show ((∃ ws, S[i]? = some (.lst ws) ∧ q (!ws.isEmpty)) ∨ ∃ kvs, S[i]? = some (.dk kvs) ∧ q (!kvs.isEmpty)) = _
  rw [h]
  exact propext ⟨fun o => o.elim (fun ⟨ws', e, q⟩ => by cases e; exact q) (fun ⟨_, e, _⟩ => by cases e), fun q => .inl ⟨ws, rfl, q⟩⟩
theorem e_truT {ws : List DL.W} {q : Bool → Prop} : vTru (.tup ws) S q = q (!ws.isEmpty) := rfl
theorem e_truB {b : Bool} {q : Bool → Prop} : vTru (.bl b) S q = q b := rfl
theorem e_truI {a : Int} {q : Bool → Prop} : vTru (.int a) S q = q (a != 0) := rfl
theorem e_truS {z : Str} {q : Bool → Prop} : vTru (.str z) S q = (z.length ≤ sizeLine ∧ q ((z.length : Int) != 0)) := rfl
theorem e_truN {q : Bool → Prop} : vTru .non S q = q false := rfl
theorem e_seqT {ws : List DL.W} {q : List DL.W → (Sto → Prop) → Sto → Prop} : vSeqI (.tup ws) S q = q ws (fun _ => True) S := rfl
theorem e_seqLit {ws : List DL.W} {q : List DL.W → (Sto → Prop) → Sto → Prop} : vSeqI (.lit ws) S q = q ws (fun _ => True) S := rfl
theorem e_seqL {ws : List DL.W} {q : List DL.W → (Sto → Prop) → Sto → Prop} (h : S[i]? = some (.lst ws)) : vSeqI (.ref i) S q = q ws (fun S' => S'[i]? = some (.lst ws)) S := by
  show (∃ ws, S[i]? = some (.lst ws) ∧ q ws (fun S' => S'[i]? = some (.lst ws)) S) = _
  rw [h]
  exact propext ⟨fun ⟨ws', e, q⟩ => by cases e; exact q, fun q => ⟨ws, rfl, q⟩⟩
theorem e_in {n : Bool} {x : DL.W} {ws : List DL.W} (h : S[i]? = some (.lst ws)) : vIn n x (.ref i) S Q = (flW x = true ∧ ws.all flW = true ∧ Q (.bl (n ^^ inW x ws)) S) := ex_seq (p := fun us => flW x = true ∧ us.all flW = true ∧ Q (.bl (n ^^ inW x us)) S) (seqOf_ref h)
theorem e_inT {n : Bool} {x : DL.W} {ws : List DL.W} : vIn n x (.tup ws) S Q = (flW x = true ∧ ws.all flW = true ∧ Q (.bl (n ^^ inW x ws)) S) := ex_seq (p := fun us => flW x = true ∧ us.all flW = true ∧ Q (.bl (n ^^ inW x us)) S) rfl
theorem e_isi {w : DL.W} {n t : String} {b : Bool} (h : tyW S w = some t) (h' : kitB t n = some b) : vIsi [w, .raw (.ty n)] S Q = Q (.bl b) S := by
  show (∃ t b, tyW S w = some t ∧ kitB t n = some b ∧ Q (.bl b) S) = _
  rw [h]
  exact propext ⟨fun ⟨t', b', e, e2, q⟩ => by cases e; rw [h'] at e2; cases e2; exact q, fun q => ⟨t, b, rfl, h', q⟩⟩
end
/-! places -/
theorem atI_0 {α : Type} {x : α} {xs : List α} : atI (x :: xs) 0 = some x := atI_nat (j := 0) rfl
theorem atI_1 {α : Type} {x y : α} {xs : List α} : atI (x :: y :: xs) 1 = some y := atI_nat (j := 1) rfl
theorem atI_2 {α : Type} {x y z : α} {xs : List α} : atI (x :: y :: z :: xs) 2 = some z := atI_nat (j := 2) rfl
theorem atI_3 {α : Type} {x y z u : α} {xs : List α} : atI (x :: y :: z :: u :: xs) 3 = some u := atI_nat (j := 3) rfl
theorem ixN_nat {n j : Nat} (h : j < n) : ixN n (j : Int) = some j := by
  unfold ixN
  rw [if_pos (Int.natCast_nonneg j), if_pos (by omega)]
  rfl
theorem ixN_last {n : Nat} : ixN (n + 1) (-1) = some n := by
  unfold ixN
  rw [if_neg (by decide), if_pos (by omega)]
  congr 1
  omega
theorem ixN_0 {n : Nat} : ixN (n + 1) 0 = some 0 := ixN_nat (j := 0) (by omega)
theorem ixN_1 {n : Nat} : ixN (n + 1 + 1) 1 = some 1 := ixN_nat (j := 1) (by omega)
theorem ixN_11 : ixN (1 + 1) 1 = some 1 := ixN_nat (j := 1) (by omega)
theorem atI_end {α : Type} {xs : List α} {v : α} : atI (xs ++ [v]) (-1) = some v := atI_last xs v
theorem set_end {α : Type} {xs : List α} {v w : α} {n : Nat} (h : n = xs.length) : (xs ++ [v]).set n w = xs ++ [w] := by
  rw [h, List.set_append_right _ _ (Nat.le_refl _), Nat.sub_self]
  rfl
theorem closed_iff {S : Sto} : Closed S ↔ ∀ o ∈ S, o.bnd S.length = true := by
  constructor
  · intro h o ho
    obtain ⟨i, hi, e⟩ := List.mem_iff_getElem.mp ho
    exact h i o (by rw [List.getElem?_eq_getElem hi, e])
  · intro h i o ho
    exact h o (List.mem_of_getElem? ho)
theorem bndL_all (n : Nat) : ∀ ws : List DL.W, W.bndL n ws = ws.all (W.bnd n)
  | [] => rfl
  | w :: ws => by
    show (W.bnd n w && W.bndL n ws) = _
    rw [bndL_all n ws]
    rfl
theorem bndL_ints (n : Nat) (is : List Int) : W.bndL n (is.map DL.W.int) = true := by
  rw [bndL_all, List.all_map]
  exact List.all_eq_true.mpr fun _ _ => rfl
theorem bndL_strs (n : Nat) (is : List Str) : W.bndL n (is.map DL.W.str) = true := by
  rw [bndL_all, List.all_map]
  exact List.all_eq_true.mpr fun _ _ => rfl
mutual
theorem pure_bnd (n : Nat) : ∀ w : DL.W, w.pure = true → w.bnd n = true
  | .non, _ => rfl
  | .bl b, _ => rfl
  | .int i, _ => rfl
  | .str x, _ => rfl
  | .raw v, _ => rfl
  | .ref i, h => Bool.noConfusion (show false = true from h)
  | .tup ws, h => by
    show W.bndL n ws = true
    exact pureL_bnd n ws h
  | .lit ws, h => by
    show W.bndL n ws = true
    exact pureL_bnd n ws h
theorem pureL_bnd (n : Nat) : ∀ ws : List DL.W, W.pureL ws = true → W.bndL n ws = true
  | [], _ => rfl
  | w :: ws, h => by
    have b : (w.pure && W.pureL ws) = true := h
    rw [Bool.and_eq_true] at b
    show (W.bnd n w && W.bndL n ws) = true
    rw [pure_bnd n w b.1, pureL_bnd n ws b.2]
    rfl
end
theorem pureL_all : ∀ ws : List DL.W, W.pureL ws = ws.all W.pure
  | [] => rfl
  | w :: ws => by
    show (w.pure && W.pureL ws) = _
    rw [pureL_all ws]
    rfl
theorem pureL_of {ws : List DL.W} (h : ∀ w ∈ ws, w.pure = true) : W.pureL ws = true := by
  rw [pureL_all]
  exact List.all_eq_true.mpr h
theorem pureL_strs (is : List Str) : W.pureL (is.map DL.W.str) = true := pureL_of fun w h => by
  obtain ⟨a, _, rfl⟩ := List.mem_map.mp h
  rfl
theorem pureL_ints (is : List Int) : W.pureL (is.map DL.W.int) = true := pureL_of fun w h => by
  obtain ⟨a, _, rfl⟩ := List.mem_map.mp h
  rfl
theorem get_app {α : Type} {R L : List α} {k : Nat} : (R ++ L)[R.length + k]? = L[k]? := by
  rw [List.getElem?_append_right (Nat.le_add_right _ _), Nat.add_sub_cancel_left]
theorem get_app0 {α : Type} {R L : List α} : (R ++ L)[R.length]? = L[0]? := get_app (k := 0)
theorem set_app {α : Type} {R L : List α} {k : Nat} {x : α} : (R ++ L).set (R.length + k) x = R ++ L.set k x := by
  rw [List.set_append_right _ _ (Nat.le_add_right _ _), Nat.add_sub_cancel_left]
theorem set_app0 {α : Type} {R L : List α} {x : α} : (R ++ L).set R.length x = R ++ L.set 0 x := set_app (k := 0)
/-- a loop over items, by what holds ahead of each turn -/
theorem forW_inv {g : DG} {b : DS} {still : Sto → Prop} {its : List DL.W} {D : DEnds} {env : Slots} {S : Sto} (I : Nat → Slots → Sto → Prop) (h0 : I 0 env S)
    (hs : ∀ (i : Nat) (x : DL.W) (env : Slots) (S : Sto), its[i]? = some x → I i env S → ∀ N : Slots → Sto → Prop, (∀ e s, I (i + 1) e s → N e s) → still S ∧ g x env S fun env2 S2 => b { D with nx := N, ct := N, bk := D.nx } env2 S2)
    (he : ∀ env S, I its.length env S → still S ∧ D.nx env S) : forW g b still its D env S := by
  have go : ∀ (n i : Nat) (env : Slots) (S : Sto), i + n = its.length → I i env S → forW g b still (its.drop i) D env S := by
    intro n
    induction n with
    | zero =>
      intro i env S hi h
      have hl : its.length ≤ i := by omega
      rw [List.drop_of_length_le hl]
      have e : i = its.length := by omega
      subst e
      exact he env S h
    | succ n ih =>
      intro i env S hi h
      have hl : i < its.length := by omega
      rw [List.drop_eq_getElem_cons hl]
      exact hs i its[i] env S (List.getElem?_eq_getElem hl) h _ fun e s q => ih (i + 1) e s (by omega) q
  exact go its.length 0 env S (by omega) h0
/-- a comprehension, by what holds ahead of each turn of what is made so far and the store -/
theorem compW_inv {g : DG} {tt : DT} {te : DE} {vs : List Nat} {still : Sto → Prop} {env : Slots} {Q : WK} {its : List DL.W} {S : Sto} (I : Nat → List DL.W → Sto → Prop) (h0 : I 0 [] S)
    (hs : ∀ (i : Nat) (x : DL.W) (acc : List DL.W) (S : Sto), its[i]? = some x → I i acc S → ∀ N : List DL.W → Sto → Prop, (∀ a s, I (i + 1) a s → N a s) → still S ∧ g x (wipeW env vs) S fun env2 S2 => tt env2 S2 fun b S3 => if b = true then te env2 S3 fun y S4 => acc.length < sizeLine ∧ N (acc ++ [y]) S4 else N acc S3)
    (he : ∀ acc S, I its.length acc S → still S ∧ Q (.ref S.length) (S ++ [.lst acc])) : compW g tt te vs still env Q its [] S := by
  have go : ∀ (n i : Nat) (acc : List DL.W) (S : Sto), i + n = its.length → I i acc S → compW g tt te vs still env Q (its.drop i) acc S := by
    intro n
    induction n with
    | zero =>
      intro i acc S hi h
      have hl : its.length ≤ i := by omega
      rw [List.drop_of_length_le hl]
      have e : i = its.length := by omega
      subst e
      exact he acc S h
    | succ n ih =>
      intro i acc S hi h
      have hl : i < its.length := by omega
      rw [List.drop_eq_getElem_cons hl]
      exact hs i its[i] acc S (List.getElem?_eq_getElem hl) h (compW g tt te vs still env Q (its.drop (i + 1))) fun a s q => ih (i + 1) a s (by omega) q
  exact go its.length 0 [] S (by omega) h0
/-- a comprehension whose element leaves the store as it is -/
theorem compW_map {α : Type} {enc r : α → DL.W} {ts : List α} {g : DG} {tt : DT} {te : DE} {vs : List Nat} {still : Sto → Prop} {env : Slots} {Q : WK} {S : Sto} (st : still S) (hl : ts.length ≤ sizeLine)
    (h : ∀ t ∈ ts, ∀ (N : List DL.W → Sto → Prop) (acc : List DL.W), acc.length < sizeLine → N (acc ++ [r t]) S → g (enc t) (wipeW env vs) S fun env2 S2 => tt env2 S2 fun b S3 => if b = true then te env2 S3 fun y S4 => acc.length < sizeLine ∧ N (acc ++ [y]) S4 else N acc S3)
    (q : Q (.ref S.length) (S ++ [.lst (ts.map r)])) : compW g tt te vs still env Q (ts.map enc) [] S := by
  refine compW_inv (fun i acc S' => S' = S ∧ acc = (ts.take i).map r) ⟨rfl, rfl⟩ ?_ ?_
  · rintro i x acc S' hx ⟨rfl, rfl⟩ N hN
    rw [List.getElem?_map] at hx
    cases ht : ts[i]? with
    | none =>
      rw [ht] at hx
      cases hx
    | some t =>
      rw [ht] at hx
      have e : enc t = x := Option.some.inj hx
      subst e
      have hi := (List.getElem?_eq_some_iff.mp ht).1
      refine ⟨st, h t (List.mem_of_getElem? ht) N _ (by rw [List.length_map, List.length_take]; omega) (hN _ _ ⟨rfl, ?_⟩)⟩
      rw [List.take_add_one, ht, List.map_append]
      rfl
  · rintro acc S' ⟨rfl, rfl⟩
    rw [List.length_map, List.take_length]
    exact ⟨st, q⟩
mutual
theorem ren_pure (f : List Nat) : ∀ w : DL.W, w.pure = true → w.ren f = w
  | .non, _ => rfl
  | .bl b, _ => rfl
  | .int i, _ => rfl
  | .str x, _ => rfl
  | .raw v, _ => rfl
  | .ref i, h => Bool.noConfusion (show false = true from h)
  | .tup ws, h => by
    show W.tup (W.renL f ws) = _
    rw [renL_pure f ws h]
  | .lit ws, h => by
    show W.lit (W.renL f ws) = _
    rw [renL_pure f ws h]
theorem renL_pure (f : List Nat) : ∀ ws : List DL.W, W.pureL ws = true → W.renL f ws = ws
  | [], _ => rfl
  | w :: ws, h => by
    have b : (w.pure && W.pureL ws) = true := h
    rw [Bool.and_eq_true] at b
    show w.ren f :: W.renL f ws = _
    rw [ren_pure f w b.1, renL_pure f ws b.2]
end
mutual
theorem ren_ext {f : List Nat} {n : Nat} (hf : ∀ i, i < n → f[i]? = some i) : ∀ w : DL.W, w.bnd n = true → w.ren f = w
  | .non, _ => rfl
  | .bl b, _ => rfl
  | .int i, _ => rfl
  | .str x, _ => rfl
  | .raw v, _ => rfl
  | .ref i, h => by
    have hi : i < n := of_decide_eq_true h
    show W.ref (f.getD i 0) = _
    rw [List.getD_eq_getElem?_getD, hf i hi]
    rfl
  | .tup ws, h => by
    show W.tup (W.renL f ws) = _
    rw [renL_ext hf ws h]
  | .lit ws, h => by
    show W.lit (W.renL f ws) = _
    rw [renL_ext hf ws h]
theorem renL_ext {f : List Nat} {n : Nat} (hf : ∀ i, i < n → f[i]? = some i) : ∀ ws : List DL.W, W.bndL n ws = true → W.renL f ws = ws
  | [], _ => rfl
  | w :: ws, h => by
    have b : (W.bnd n w && W.bndL n ws) = true := h
    rw [Bool.and_eq_true] at b
    show w.ren f :: W.renL f ws = _
    rw [ren_ext hf w b.1, renL_ext hf ws b.2]
end
theorem O_ren_ext {f : List Nat} {n : Nat} (hf : ∀ i, i < n → f[i]? = some i) : ∀ o : O, o.bnd n = true → o.ren f = o
  | .lst ws, b => by
    show O.lst _ = _
    rw [renL_ext hf ws b]
  | .dk kvs, b => by
    have go : ∀ kvs : List (Key × DL.W), W.bndL n (kvs.map (·.2)) = true → (kvs.map fun kv => (kv.1, kv.2.ren f)) = kvs := by
      intro kvs
      induction kvs with
      | nil => intro _; rfl
      | cons kv r ih =>
        intro b
        have b' : (W.bnd n kv.2 && W.bndL n (r.map (·.2))) = true := b
        rw [Bool.and_eq_true] at b'
        rw [List.map_cons, ih b'.2, DL.ren_ext hf _ b'.1]
    show O.dk _ = _
    rw [go kvs b]
mutual
theorem bnd_mono {n m : Nat} (h : n ≤ m) : ∀ w : DL.W, w.bnd n = true → w.bnd m = true
  | .non, _ => rfl
  | .bl b, _ => rfl
  | .int i, _ => rfl
  | .str x, _ => rfl
  | .raw v, _ => rfl
  | .ref i, b => decide_eq_true (Nat.lt_of_lt_of_le (of_decide_eq_true b) h)
  | .tup ws, b => by
    show W.bndL m ws = true
    exact bndL_mono h ws b
  | .lit ws, b => by
    show W.bndL m ws = true
    exact bndL_mono h ws b
theorem bndL_mono {n m : Nat} (h : n ≤ m) : ∀ ws : List DL.W, W.bndL n ws = true → W.bndL m ws = true
  | [], _ => rfl
  | w :: ws, b => by
    have b' : (W.bnd n w && W.bndL n ws) = true := b
    rw [Bool.and_eq_true] at b'
    show (W.bnd m w && W.bndL m ws) = true
    rw [bnd_mono h w b'.1, bndL_mono h ws b'.2]
    rfl
end
theorem O_bnd_mono {n m : Nat} (h : n ≤ m) : ∀ o : O, o.bnd n = true → o.bnd m = true
  | .lst ws, b => bndL_mono h ws b
  | .dk kvs, b => bndL_mono h _ b
/-- a new list of pure items is handed back, all else that is new is forgotten -/
theorem Ends0.last {n : Nat} {Q : WK} {S T : Sto} {k : Nat} {ws : List DL.W} (hn : n ≤ S.length) (cl : Closed S) (hk : T[k]? = some (.lst ws)) (hp : W.pureL ws = true) (q : Q (.ref S.length) (S ++ [.lst ws])) : Ends0 n Q (.ref (S.length + k)) (S ++ T) := by
  have hf : ∀ i, i < S.length → (List.range S.length ++ [S.length + k])[i]? = some i := fun i hi => by
    rw [List.getElem?_append_left (by rw [List.length_range]; exact hi)]
    exact List.getElem?_range hi
  have hlast : (List.range S.length ++ [S.length + k])[S.length]? = some (S.length + k) := by
    have z := get_app0 (R := List.range S.length) (L := [S.length + k])
    rw [List.length_range] at z
    exact z
  refine ⟨List.range S.length ++ [S.length + k], S ++ [.lst ws], .ref S.length, by simp, fun i hi => hf i (by omega), ?_, fun i o ho => ?_, ?_, ?_, q⟩
  · rw [List.nodup_append]
    refine ⟨List.nodup_range, List.nodup_cons.mpr ⟨List.not_mem_nil, List.nodup_nil⟩, fun a ha b hb => ?_⟩
    rw [List.mem_singleton.mp hb]
    have := List.mem_range.mp ha
    omega
  · have hlen : (List.range S.length ++ [S.length + k]).length = S.length + 1 := by simp
    rw [hlen]
    by_cases hi : i < S.length
    · rw [List.getElem?_append_left hi] at ho
      have b := cl i o ho
      refine ⟨O_bnd_mono (Nat.le_succ _) o b, i, hf i hi, ?_⟩
      rw [List.getElem?_append_left hi, ho, O_ren_ext hf o b]
    · have e : i = S.length := by
        have := (List.getElem?_eq_some_iff.mp ho).1
        rw [List.length_append] at this
        simp at this
        omega
      subst e
      rw [get_app0] at ho
      have e2 : O.lst ws = o := Option.some.inj ho
      subst e2
      refine ⟨pureL_bnd _ ws hp, S.length + k, hlast, ?_⟩
      rw [get_app, hk]
      show some (O.lst ws) = some (O.lst (W.renL _ ws))
      rw [renL_pure _ ws hp]
  · show W.ref _ = W.ref (List.getD _ _ _)
    rw [List.getD_eq_getElem?_getD, hlast]
    rfl
  · refine decide_eq_true ?_
    rw [List.length_append, List.length_range]
    exact Nat.lt_succ_self _
theorem e_join {S : Sto} {Q : WK} {a : Str} {i : Nat} {ys : List Str} (h : S[i]? = some (.lst (ys.map W.str))) (hz : (ys.map (·.length)).sum + ys.length * a.length ≤ 16777216) (q : Q (.str (Txt.join a ys)) S) : vJoin (.str a) [.ref i] S Q :=
  ⟨ys, seqOf_ref h, hz, q⟩
theorem tyW_L {S : Sto} {i : Nat} {ws : List DL.W} (h : S[i]? = some (.lst ws)) : tyW S (.ref i) = some "list" := by simp only [tyW, h]
theorem tyW_S {S : Sto} {z : Str} : tyW S (.str z) = some "str" := rfl
theorem tyW_T {S : Sto} {z : List DL.W} : tyW S (.tup z) = some "tuple" := rfl
theorem tyW_I {S : Sto} {z : Int} : tyW S (.int z) = some "int" := rfl
theorem tyW_B {S : Sto} {z : Bool} : tyW S (.bl z) = some "bool" := rfl
theorem cut_to {ws : List DL.W} {k : Nat} : cutW ws none (some (k : Int)) = ws.take k := by
  unfold cutW
  rw [HT.sIx_none, HT.sIx_nat, List.drop_zero, Nat.sub_zero]
  by_cases h : k ≤ ws.length
  · rw [Nat.min_eq_left h]
  · rw [Nat.min_eq_right (by omega), List.take_length, List.take_of_length_le (by omega)]
theorem cut_from {ws : List DL.W} {k : Nat} : cutW ws (some (k : Int)) none = ws.drop k := by
  unfold cutW
  rw [HT.sIx_none, HT.sIx_nat]
  by_cases h : k ≤ ws.length
  · rw [Nat.min_eq_left h]
    exact List.take_of_length_le (by rw [List.length_drop]; omega)
  · rw [Nat.min_eq_right (by omega), List.drop_length, List.drop_of_length_le (by omega), List.take_nil]
theorem cut_to1 {w : DL.W} {ws : List DL.W} : cutW (w :: ws) none (some 1) = [w] := cut_to (k := 1)
theorem cut_to2 {w u : DL.W} {ws : List DL.W} : cutW (w :: u :: ws) none (some 2) = [w, u] := cut_to (k := 2)
theorem cut_from1 {w : DL.W} {ws : List DL.W} : cutW (w :: ws) (some 1) none = ws := cut_from (k := 1)
theorem wipeW_nil {env : Slots} : wipeW env [] = env := rfl
theorem wipeW_cons {env : Slots} {v : Nat} {vs : List Nat} : wipeW env (v :: vs) = (wipeW env vs).set v none := rfl
theorem kit_ll : kitB "list" "list" = some true := by decide +kernel
theorem kit_ss : kitB "str" "str" = some true := by decide +kernel
theorem kit_tt : kitB "tuple" "tuple" = some true := by decide +kernel
theorem kit_ii : kitB "int" "int" = some true := by decide +kernel
theorem kit_bb : kitB "bool" "bool" = some true := by decide +kernel
theorem kit_bi : kitB "bool" "int" = some true := by decide +kernel
theorem kit_ib : kitB "int" "bool" = some false := by decide +kernel
theorem kit_si : kitB "str" "int" = some false := by decide +kernel
theorem kit_is : kitB "int" "str" = some false := by decide +kernel
end DL

/-! DLg: dicts with int and text keys; in of any kind; max; extend; dict of pairs. -/
namespace DL
open PySem PySem.Spec PyProof.Rows L2
def keyW : W → Option Key
  | .int i => some (.inl i)
  | .str x => some (.inr x)
  | _ => none
def wK : Key → W
  | .inl i => .int i
  | .inr x => .str x
theorem keyW_wK (k : Key) : keyW (wK k) = some k := by cases k <;> rfl
theorem rep_wK {K : Fg} {r : List Addr} {H : Hp} (k : Key) : Rep K r H (kV k) (wK k) := by
  cases k
  · exact .int _
  · exact .str _
theorem rep_key {K : Fg} {r : List Addr} {H : Hp} {v : V} {w : W} {k : Key} (p : Rep K r H v w) (h : keyW w = some k) : v = kV k := by
  cases p <;> first | (cases h; rfl) | cases h
def valW (kvs : List (Key × W)) (k : Key) : Option W := (kvs.find? fun kv => decide (kv.1 = k)).map (·.2)
def putW (kvs : List (Key × W)) (k : Key) (w : W) : List (Key × W) :=
  if (kvs.any fun kv => decide (kv.1 = k)) = true then kvs.map (fun kv => if kv.1 = k then (kv.1, w) else kv) else kvs ++ [(k, w)]
section
variable {K : Fg} {r : List Addr} {H : Hp} {S : Sto}
theorem kv_nil : RelKV K r H [] [] := ⟨rfl, .nil⟩
theorem kv_cons {k : Key} {v : V} {w : W} {vs : List (Key × V)} {ws : List (Key × W)} (h : Rep K r H v w) (l : RelKV K r H vs ws) : RelKV K r H ((k, v) :: vs) ((k, w) :: ws) :=
  ⟨by rw [List.map_cons, List.map_cons, l.1], .cons h l.2⟩
theorem kv_inv {p : Key × W} {vs : List (Key × V)} {ws : List (Key × W)} (l : RelKV K r H vs (p :: ws)) : ∃ v vs', vs = (p.1, v) :: vs' ∧ Rep K r H v p.2 ∧ RelKV K r H vs' ws := by
  obtain ⟨h1, h2⟩ := l
  cases vs with
  | nil => simp at h1
  | cons q vs =>
    rw [List.map_cons, List.map_cons] at h1
    rw [List.map_cons, List.map_cons] at h2
    cases h2 with
    | cons a b =>
      obtain ⟨k, v⟩ := q
      have e1 := (List.cons.inj h1).1
      have e1' : k = p.1 := e1
      exact ⟨v, vs, by rw [← e1'], a, (List.cons.inj h1).2, b⟩
theorem kv_empty {vs : List (Key × V)} (l : RelKV K r H vs []) : vs = [] := by
  have h := l.1
  cases vs with
  | nil => rfl
  | cons a b => simp at h
theorem kv_len {vs : List (Key × V)} {ws : List (Key × W)} (l : RelKV K r H vs ws) : vs.length = ws.length := by
  have h := congrArg List.length l.1
  rwa [List.length_map, List.length_map] at h
theorem kv_val {k : Key} : ∀ {ws : List (Key × W)} {vs : List (Key × V)}, RelKV K r H vs ws → (∀ w, valW ws k = some w → ∃ v, valV vs k = some v ∧ Rep K r H v w) ∧ (valW ws k = none → valV vs k = none)
  | [], vs, l => by
    cases kv_empty l
    exact ⟨fun w h => (by cases h), fun _ => rfl⟩
  | p :: ws, vs, l => by
    obtain ⟨v, vs', rfl, a, b⟩ := kv_inv l
    have ih := kv_val (k := k) b
    by_cases e : p.1 = k
    · have h1 : valW (p :: ws) k = some p.2 := by unfold valW; simp [e]
      have h2 : valV ((p.1, v) :: vs') k = some v := valV_pos e
      rw [h1, h2]
      exact ⟨fun w h => by cases h; exact ⟨v, rfl, a⟩, fun h => by cases h⟩
    · have h1 : valW (p :: ws) k = valW ws k := by unfold valW; simp [e]
      have h2 : valV ((p.1, v) :: vs') k = valV vs' k := valV_neg e
      rw [h1, h2]
      exact ih
theorem kv_any {k : Key} {ws : List (Key × W)} {vs : List (Key × V)} (l : RelKV K r H vs ws) : (vs.any fun kv => decide (kv.1 = k)) = ws.any fun kv => decide (kv.1 = k) := by
  have e1 : (vs.any fun kv => decide (kv.1 = k)) = (vs.map (·.1)).any fun x => decide (x = k) := by rw [List.any_map]; rfl
  have e2 : (ws.any fun kv => decide (kv.1 = k)) = (ws.map (·.1)).any fun x => decide (x = k) := by rw [List.any_map]; rfl
  rw [e1, e2, l.1]
theorem kv_app {vs us : List (Key × V)} {ws zs : List (Key × W)} (l : RelKV K r H vs ws) (m : RelKV K r H us zs) : RelKV K r H (vs ++ us) (ws ++ zs) := by
  refine ⟨by rw [List.map_append, List.map_append, l.1, m.1], ?_⟩
  rw [List.map_append, List.map_append]
  exact l.2.app m.2
theorem kv_repl {k : Key} {v : V} {w : W} (h : Rep K r H v w) : ∀ {ws : List (Key × W)} {vs : List (Key × V)}, RelKV K r H vs ws → RelKV K r H (vs.map fun kv => if kv.1 = k then (kv.1, v) else kv) (ws.map fun kv => if kv.1 = k then (kv.1, w) else kv)
  | [], vs, l => by
    cases kv_empty l
    exact kv_nil
  | p :: ws, vs, l => by
    obtain ⟨u, vs', rfl, a, b⟩ := kv_inv l
    have ih := kv_repl (k := k) h b
    rw [List.map_cons, List.map_cons]
    by_cases e : p.1 = k
    · rw [if_pos e, if_pos e]
      exact kv_cons h ih
    · rw [if_neg e, if_neg e]
      exact kv_cons a ih
theorem kv_put {k : Key} {v : V} {w : W} (h : Rep K r H v w) {ws : List (Key × W)} {vs : List (Key × V)} (l : RelKV K r H vs ws) : RelKV K r H (putK vs k v) (putW ws k w) := by
  unfold putK putW
  rw [kv_any l]
  split
  · exact kv_repl h l
  · exact kv_app l (kv_cons h kv_nil)
theorem kv_mono {r' : List Addr} {H' : Hp} (e : Ext K r H r' H') {ws : List (Key × W)} {vs : List (Key × V)} (l : RelKV K r H vs ws) : RelKV K r' H' vs ws := ⟨l.1, l.2.mono e⟩
theorem new_dk (R : RelS K r H S) {p : Addr} {vs : List (Key × V)} {ws : List (Key × W)} (h : H p = none) (l : RelKV K r H vs ws) : RelS K (r ++ [p]) (upd H p (.dK vs)) (S ++ [.dk ws]) :=
  rel_mem R h ⟨vs, upd_same, kv_mono (ext_mem h) l⟩
theorem wr_dk (R : RelS K r H S) {i : Nat} {p : Addr} {vs vs' : List (Key × V)} {ws' : List (Key × W)} (hp : r[i]? = some p) (h : H p = some (.dK vs)) (l : RelKV K r H vs' ws') : RelS K r (upd H p (.dK vs')) (S.set i (.dk ws')) :=
  rel_wr R hp h trivial ⟨vs', upd_same, kv_mono (ext_wr hp h trivial) l⟩
end
/-! ### d[k] -/
def rIxDk : R2 := fun x y H Q => ∃ p kvs k v, x = .ref p ∧ y = kV k ∧ H p = some (.dK kvs) ∧ valV kvs k = some v ∧ Q v H
section
variable {X : Cx}
theorem ix_dk (hu : X.A.units + 64 < cLine) : IxR X rIxDk := by
  intro value slice pins s σ H x y v u Q I rx ry h hs
  obtain ⟨p, kvs, k, r, rfl, rfl, hp, hv, q⟩ := h
  obtain rfl : v = Value.ref p := rx
  have g : DGet H p (kV k) (some r) := by
    rw [← hv]
    exact .k hp
  exact tail_any (dict_typeIs I g) slot_dict_getitem.lookup (d_getItem (Nat.lt_of_le_of_lt (Nat.add_le_add_left (by decide : 1 ≤ 64) _) hu) I g ry fun w' s3 I3 rw' => ⟨r, H, I3, rw', q⟩) hs
end
def vIxD (x y : W) (S : Sto) (Q : WK) : Prop := match x with
  | .ref p => ∃ kvs k w, S[p]? = some (.dk kvs) ∧ keyW y = some k ∧ valW kvs k = some w ∧ Q w S
  | _ => False
def vIxA (x y : W) (S : Sto) (Q : WK) : Prop := vIx x y S Q ∨ vIxD x y S Q
theorem ixD_sim {K : Fg} : SimR K rIxDk vIxD := by
  intro r H S x y wx wy Q Q0 R px py d k
  cases px <;> try exact d.elim
  rename_i a j h
  obtain ⟨kvs, key, w, h0, h1, h2, q⟩ := d
  obtain ⟨vs, h3, l⟩ := R.obj j _ _ h h0
  obtain ⟨v, hv, pv⟩ := (kv_val l).1 w h2
  exact ⟨a, vs, key, v, rfl, rep_key py h1, h3, hv, k r H S _ _ .refl R pv q⟩
theorem SimR.or {K : Fg} {t t' : R2} {d d' : W → W → Sto → WK → Prop} (h : SimR K t d) (h' : SimR K t' d') : SimR K (fun x y H Q => t x y H Q ∨ t' x y H Q) (fun x y S Q => d x y S Q ∨ d' x y S Q) :=
  fun r H S x y wx wy Q Q0 R px py g k => g.elim (fun g => .inl (h r H S x y wx wy Q Q0 R px py g k)) (fun g => .inr (h' r H S x y wx wy Q Q0 R px py g k))
theorem SimC.or {K : Fg} {t t' : List V → Hp → VK → Prop} {d d' : List W → Sto → WK → Prop} (h : SimC K t d) (h' : SimC K t' d') : SimC K (fun x H Q => t x H Q ∨ t' x H Q) (fun x S Q => d x S Q ∨ d' x S Q) :=
  fun r H S x wx Q Q0 R px g k => g.elim (fun g => .inl (h r H S x wx Q Q0 R px g k)) (fun g => .inr (h' r H S x wx Q Q0 R px g k))
section
variable {X : Cx} {a b e o : Expr} {es : List Expr} {da db d0 : DE} {dA : DA} {pos : Pos}
theorem x_ixA (hu : X.A.units + 64 < cLine) (ha : XE X a da) (hb : XE X b db) (hs : PlainIx b := by exact fun _ _ => rfl) : XE X (.Subscript a b pos) (dOp vIxA da db) := xe_ix (IxR.or ix_seq (ix_dk hu)) (SimR.or ix_sim ixD_sim) ha hb hs
/-! ### d[k] = v -/
def vSetD (o i v : W) (S : Sto) (Q : Sto → Prop) : Prop := match o with
  | .ref p => ∃ kvs k, S[p]? = some (.dk kvs) ∧ keyW i = some k ∧ kvs.length < sizeLine ∧ Q (S.set p (.dk (putW kvs k v)))
  | _ => False
def rSetDk : V → V → V → Hp → (Hp → Prop) → Prop := fun o i v H Q => ∃ p kvs k, o = .ref p ∧ i = kV k ∧ H p = some (.dK kvs) ∧ kvs.length < sizeLine ∧ Q (upd H p (.dK (putK kvs k v)))
theorem set_dkv (hu : X.A.units + 64 < cLine) : PSet X rSetDk := by
  intro pins s σ H o i v ov iv u Q I ro ri rv h
  obtain ⟨p, kvs, k, rfl, rfl, hp, hl, q⟩ := h
  obtain rfl : ov = Value.ref p := ro
  exact d_setItem (Nat.lt_of_le_of_lt (Nat.add_le_add_left (by decide : 1 ≤ 64) _) hu) I (.k hp hl) ri rv fun s' I' => ⟨_, I', q⟩
theorem PSet.or {t t' : TSet} (h : PSet X t) (h' : PSet X t') : PSet X (fun o i v H Q => t o i v H Q ∨ t' o i v H Q) :=
  fun pins s σ H o i v ov iv u Q I ro ri rv g => g.elim (h pins s σ H o i v ov iv u Q I ro ri rv) (h' pins s σ H o i v ov iv u Q I ro ri rv)
theorem setD_sim {K : Fg} : SimSet K rSetDk vSetD := by
  intro r H S o i v wo wi w Q Q0 R po pi pv d k
  cases po <;> try exact d.elim
  rename_i a j h
  obtain ⟨kvs, key, h0, h1, hl, q⟩ := d
  obtain ⟨vs, h3, l⟩ := R.obj j _ _ h h0
  exact ⟨a, vs, key, rfl, rep_key pi h1, h3, by rw [kv_len l]; exact hl, k r _ _ (ext_wr h h3 trivial) (wr_dk R h h3 (kv_put pv l)) q⟩
def vSetA (o i v : W) (S : Sto) (Q : Sto → Prop) : Prop := vSet o i v S Q ∨ vSetD o i v S Q
theorem setA_sim {K : Fg} : SimSet K (fun o i v H Q => rSetL o i v H Q ∨ rSetDk o i v H Q) vSetA := fun r H S o i v wo wi w Q Q0 R po pi pv d k =>
  d.elim (fun d => .inl (set_sim r H S o i v wo wi w Q Q0 R po pi pv d k)) (fun d => .inr (setD_sim r H S o i v wo wi w Q Q0 R po pi pv d k))
theorem g_subA (hu : X.A.units + 64 < cLine) (ho : XE X o da) (hi : XE X b db) (ha : ∀ v, assign (.Subscript o b pos) X.env v = (do
      let ov ← holding [v] (eval o X.env)
      let iv ← holding [v, ov] (eval b X.env)
      standAt pos
      holding [v, ov, iv] (setItem ov iv v)
      release [v, ov, iv] []) := by intro _; rfl) : XG X (.Subscript o b pos) (gSb da db vSetA) := xg_sub (PSet.or set_list (set_dkv hu)) setA_sim ho hi ha
/-! ### {} -/
def dDict0 : DE := fun _ S Q => Q (.ref S.length) (S ++ [.dk []])
theorem xe_dict0 : XE X (.Dict [] [] pos) dDict0 := ⟨_, pe_dnewK, fun r H S s env Q Q0 R E d k => fun p hp => k _ _ _ _ _ (ext_mem hp) (new_dk R hp kv_nil) (rep_mem R) d⟩
/-! ### in -/
def vInD (neg : Bool) (x y : W) (S : Sto) (Q : WK) : Prop := match y with
  | .ref p => ∃ kvs k, S[p]? = some (.dk kvs) ∧ keyW x = some k ∧ Q (.bl (neg ^^ (valW kvs k).isSome)) S
  | .str z => ∃ c, x = .str ⟨#[c]⟩ ∧ Q (.bl (neg ^^ decide (c ∈ z.cps.toList))) S
  | _ => False
def rInDk (neg : Bool) : R2 := fun x y H Q => (∃ p kvs k, y = .ref p ∧ x = kV k ∧ H p = some (.dK kvs) ∧ Q (.bl (neg ^^ (valV kvs k).isSome)) H) ∨ ∃ (c : Nat) (z : Str), x = .str ⟨#[c]⟩ ∧ y = .str z ∧ Q (.bl (neg ^^ decide (c ∈ z.cps.toList))) H
theorem op_inDk (hu : X.A.units + 64 < cLine) : OpR X (compareOp .In) (rInDk false) := by
  intro pins s σ H x y v u Q I rx ry h
  rcases h with ⟨p, kvs, k, rfl, rfl, hp, q⟩ | h
  · obtain rfl : u = Value.ref p := ry
    rw [Bool.false_xor] at q
    exact d_in (Nat.lt_of_le_of_lt (Nat.add_le_add_left (by decide : 1 ≤ 64) _) hu) I (.k hp) rx fun s' I' => ⟨.bl _, H, I', rfl, q⟩
  · obtain ⟨c, z, rfl, rfl, q⟩ := h
    rw [Bool.false_xor] at q
    exact op_in_sign pins s σ H _ _ v u Q I rx ry ⟨c, z, rfl, rfl, q⟩
theorem op_notInDk (hu : X.A.units + 64 < cLine) : OpR X (compareOp .NotIn) (rInDk true) := by
  intro pins s σ H x y v u Q I rx ry h
  rcases h with ⟨p, kvs, k, rfl, rfl, hp, q⟩ | h
  · obtain rfl : u = Value.ref p := ry
    rw [Bool.true_xor] at q
    exact d_notIn (Nat.lt_of_le_of_lt (Nat.add_le_add_left (by decide : 1 ≤ 64) _) hu) I (.k hp) rx fun s' I' => ⟨.bl _, H, I', rfl, q⟩
  · obtain ⟨c, z, rfl, rfl, q⟩ := h
    rw [Bool.true_xor] at q
    exact op_notIn_sign pins s σ H _ _ v u Q I rx ry ⟨c, z, rfl, rfl, q⟩
theorem inDk_sim {K : Fg} {neg : Bool} : SimR K (rInDk neg) (vInD neg) := by
  intro r H S x y wx wy Q Q0 R px py d k
  cases py <;> try exact d.elim
  · obtain ⟨c, rfl, q⟩ := d
    cases px
    exact .inr ⟨c, _, rfl, rfl, k r H S _ _ .refl R (.bl _) q⟩
  · rename_i a j h
    obtain ⟨kvs, key, h0, h1, q⟩ := d
    obtain ⟨vs, h3, l⟩ := R.obj j _ _ h h0
    refine .inl ⟨a, vs, key, rfl, rep_key px h1, h3, ?_⟩
    have e : (valV vs key).isSome = (valW kvs key).isSome := by
      obtain ⟨f, g⟩ := kv_val (k := key) l
      cases hw : valW kvs key with
      | none => rw [g hw]; rfl
      | some w =>
        obtain ⟨v, hv, _⟩ := f w hw
        rw [hv]
        rfl
    rw [e]
    exact k r H S _ _ .refl R (.bl _) q
def vInA (neg : Bool) (x y : W) (S : Sto) (Q : WK) : Prop := vIn neg x y S Q ∨ vInD neg x y S Q
theorem x_inA (hu : X.A.units + 64 < cLine) (ha : XE X a da) (hb : XE X b db) (hm : behindInMarks .In b = false := by rfl) : XE X (.Compare a [.In] [b] pos) (dOp (vInA false) da db) := xe_cmp (OpR.or op_in_seq (op_inDk hu)) (SimR.or in_sim inDk_sim) ha hb hm
theorem x_notinA (hu : X.A.units + 64 < cLine) (ha : XE X a da) (hb : XE X b db) (hm : behindInMarks .NotIn b = false := by rfl) : XE X (.Compare a [.NotIn] [b] pos) (dOp (vInA true) da db) := xe_cmp (OpR.or op_notIn_seq (op_notInDk hu)) (SimR.or notin_sim inDk_sim) ha hb hm
theorem t_inA (hu : X.A.units + 64 < cLine) (ha : XE X a da) (hb : XE X b db) (hm : behindInMarks .In b = false := by rfl) : XT X (.Compare a [.In] [b] pos) (dB (dOp (vInA false) da db)) := xt_cmp (OpR.or op_in_seq (op_inDk hu)) (SimR.or in_sim inDk_sim) ha hb hm
theorem t_notinA (hu : X.A.units + 64 < cLine) (ha : XE X a da) (hb : XE X b db) (hm : behindInMarks .NotIn b = false := by rfl) : XT X (.Compare a [.NotIn] [b] pos) (dB (dOp (vInA true) da db)) := xt_cmp (OpR.or op_notIn_seq (op_notInDk hu)) (SimR.or notin_sim inDk_sim) ha hb hm
/-! ### list(d), len(d) -/
def vListD (xs : List W) (S : Sto) (Q : WK) : Prop := match xs with
  | [.ref p] => ∃ kvs, S[p]? = some (.dk kvs) ∧ Q (.ref S.length) (S ++ [.lst (kvs.map fun kv => wK kv.1)])
  | _ => False
theorem wKs_rep {K : Fg} {r : List Addr} {H : Hp} : ∀ {ws : List (Key × W)} {vs : List (Key × V)}, RelKV K r H vs ws → ∀ {r' : List Addr} {H' : Hp}, RepL K r' H' (vs.map fun kv => kV kv.1) (ws.map fun kv => wK kv.1)
  | [], vs, l, _, _ => by
    cases kv_empty l
    exact .nil
  | p :: ws, vs, l, _, _ => by
    obtain ⟨v, vs', rfl, a, b⟩ := kv_inv l
    exact .cons (rep_wK _) (wKs_rep b)
theorem listD_sim {K : Fg} : SimC K rListD vListD := by
  intro r H S xs ws Q Q0 R l d k
  cases l with
  | nil => exact d.elim
  | cons p l =>
    cases l with
    | cons p' l' => cases p <;> exact d.elim
    | nil =>
      cases p <;> try exact d.elim
      rename_i a j h
      obtain ⟨kvs, h0, q⟩ := d
      obtain ⟨vs, h3, l⟩ := R.obj j _ _ h h0
      exact ⟨a, vs, rfl, h3, fun p hp => k _ _ _ _ _ (ext_mem hp) (new_lst R hp (wKs_rep l)) (rep_mem R) q⟩
def vListA (xs : List W) (S : Sto) (Q : WK) : Prop := vList xs S Q ∨ vListD xs S Q
variable {p : Pos}
theorem c_listA (hc : X.calm = true) (hg : Gl X "list") (hm : X.mg "list" = none) (ha : XA X (e :: es) dA) (he : starEach (e :: es) X.env = (false, eval e X.env) :: starEach es X.env := by rfl) (hpl : (backTo pos (starEach es X.env)).any (·.1) = false := by rfl) : XE X (.Call (.Name "list" p) (e :: es) [] pos) (dCB vListA dA) :=
  xe_callTy (CallR.or call_list_of (call_list_dK hc)) (SimC.or list_sim listD_sim) hg hm (by decide +kernel) ha (by decide) (by decide) he hpl
/-! ### max -/
def vMaxA (xs : List W) (S : Sto) (Q : WK) : Prop := (∃ i j, xs = [.int i, .int j] ∧ Q (.int (max i j)) S) ∨ ∃ (p : Nat) (ns : List Int), xs = [.ref p] ∧ S[p]? = some (.lst (ns.map W.int)) ∧ 0 < ns.length ∧ ∀ m, m ∈ ns → (∀ y, y ∈ ns → y ≤ m) → Q (.int m) S
theorem max_sim {K : Fg} : SimC K (fun xs H Q => (∃ i j, xs = [.int i, .int j] ∧ Q (.int (if j > i then j else i)) H) ∨ rMax K xs H Q) vMaxA := by
  intro r H S xs ws Q Q0 R l d k
  rcases d with ⟨i, j, rfl, q⟩ | ⟨p, ns, rfl, hs, hn, q⟩
  · cases l with
    | cons a l =>
      cases l with
      | cons b l =>
        cases l
        cases a
        cases b
        refine .inl ⟨i, j, rfl, ?_⟩
        have e : max i j = if j > i then j else i := by
          split <;> omega
        rw [e] at q
        exact k r H S _ _ .refl R (.int _) q
  · cases l with
    | cons a l =>
      cases l
      cases a
      rename_i a h
      obtain ⟨vs, h3, l⟩ := R.obj p _ _ h hs
      have e := repL_ints l
      subst e
      exact .inr ⟨a, ns, rfl, .of h3, hn, fun m h1 h2 => k r H S _ _ .refl R (.int _) (q m h1 h2)⟩
theorem c_max (hc : X.calm = true) (hg : Gl X "max") (hm : X.mg "max" = none) (ha : XA X (e :: es) dA) (he : starEach (e :: es) X.env = (false, eval e X.env) :: starEach es X.env := by rfl) (hpl : (backTo pos (starEach es X.env)).any (·.1) = false := by rfl) : XE X (.Call (.Name "max" p) (e :: es) [] pos) (dCB vMaxA dA) :=
  xe_callB (CallR.or (call_max2 hc) (cr_max hc)) max_sim hg hm (by decide +kernel) ha (by decide) (by decide) he hpl
/-! ### extend, isalpha -/
variable {apos cpos : Pos}
def vExtend (x : W) (ws : List W) (S : Sto) (Q : WK) : Prop := match x, ws with
  | .ref i, [.ref j] => ∃ zs us, S[i]? = some (.lst zs) ∧ S[j]? = some (.lst us) ∧ zs.length + us.length ≤ sizeLine ∧ Q .non (S.set i (.lst (zs ++ us)))
  | _, _ => False
theorem extend_sim {K : Fg} : SimM K rExtend vExtend := by
  intro r H S x xs wx ws Q Q0 R px l d k
  cases px <;> try (cases l <;> exact d.elim)
  rename_i a i h
  cases l with
  | nil => exact d.elim
  | cons p l =>
    cases l with
    | cons p' l' => cases p <;> exact d.elim
    | nil =>
      cases p <;> try exact d.elim
      rename_i b j h'
      obtain ⟨zs, us, h0, h1, hz, q⟩ := d
      obtain ⟨xs, h3, l⟩ := R.obj i _ _ h h0
      obtain ⟨ys, h4, m⟩ := R.obj j _ _ h' h1
      exact ⟨a, b, xs, ys, rfl, rfl, h3, h4, by rw [l.length, m.length]; exact hz, k r _ _ _ _ (ext_wr h h3 trivial) (wr_lst R h h3 (l.app m)) .non q⟩
theorem m_extend {dr : DA} (ho : XE X o d0) (ha : XA X (e :: es) dr) (hbase : attributeBase o "extend" X.env (eval o X.env) = eval o X.env := by rfl)
    (hfew : ((backTo cpos (starEach (e :: es) X.env)).all (fun x => !x.1) && (backToKw cpos (keywordEach [] X.env)).all (fun x => x.1.isSome)
      && decide ((e :: es).length + ([] : List Keyword).length + (if ([] : List Keyword).isEmpty then 0 else 1) < 30)) = true := by rfl)
    (hline : (apos.endLine == cpos.line) = true := by rfl) (hs : starEach (e :: es) X.env = (false, eval e X.env) :: starEach es X.env := by rfl) (hplain : (backTo cpos (starEach es X.env)).any (·.1) = false := by rfl) :
    XE X (.Call (.Attribute o "extend" apos) (e :: es) [] cpos) (dBM "list" vExtend d0 dr) :=
  xe_bm PySem.F.plainAttrs_list PySem.F.slot_list_extend PySem.F.type_list_extend mt_extend extend_sim ho ha hbase hfew hline hs hplain
def vIsalpha (x : W) (ws : List W) (S : Sto) (Q : WK) : Prop := match x, ws with
  | .str a, [] => Q (.bl (Txt.isalpha a)) S
  | _, _ => False
theorem isalpha_sim {K : Fg} : SimM K (fun x xs H Q => ∃ a, x = .str a ∧ xs = [] ∧ True ∧ Q (.bl (Txt.isalpha a)) H) vIsalpha := by
  intro r H S x xs wx ws Q Q0 R px l d k
  cases px <;> try (cases l <;> exact d.elim)
  cases l with
  | cons p l => exact d.elim
  | nil => exact ⟨_, rfl, rfl, trivial, k r H S _ _ .refl R (.bl _) d⟩
end
end DL

/-! DLh: enumerate of a tuple or a list; zip; reversed; dict of pairs. -/
namespace DL
open PySem PySem.Spec PyProof.Rows L2
section
open PySem.AutoSeq1 (wpAny_loadPart')
theorem meets_enum1 {v : Value} {o : Obj} {H : Heap → Prop} (B : Begins v o H) :
    Meets (Builtin.«enumerate.__new__» ⟨[.type "enumerate", v], []⟩) (fun _ R s => H s.heap ∧
      R (.ok (.ret (.ref (s.heap.push o).objs.size))) { s with heap := (s.heap.push o).push { cls := .type "enumerate", data := .fields #[.none, .bool false, .ref s.heap.objs.size, rawInt 0, .none, .none] } }) :=
  .of_wp fun prog w A R s h => by
    obtain ⟨hp, g, d, tk, os⟩ := s; obtain ⟨h1, h⟩ := h
    have hsub := sub_enumerate
    have q1 : ∀ {A' : Around} {E : Value → Shared → Prop} {Q : Value → Shared → Prop}, Q (.ref hp.objs.size) ⟨hp.push o, g, d, tk, os⟩ → wpAny (model prog w) A' (pyIter v) Q E ⟨hp, g, d, tk, os⟩ :=
      fun q => B.iter prog w _ _ ⟨hp, g, d, tk, os⟩ _ h1 q
    wp_walk using q1
    refine wpAny_stack_any fun st => wpAny_pure ?_
    split
    · rename_i c _ _ _ _ _
      cases (c == Value.type "enumerate")
      · wp_walk using q1
        exact ⟨_, rfl, h⟩
      · wp_walk using q1
        exact ⟨_, rfl, h⟩
    · wp_walk using q1
      exact ⟨_, rfl, h⟩
theorem call_enum1 {prog : Program} {w : World} {A : Around} {E : Value → Shared → Prop} {s : Shared} {v : Value} {o : Obj} {H : Heap → Prop} {Q : Value → Shared → Prop} (B : Begins v o H) (h1 : H s.heap)
    (h : ∀ h', IsEnum h' (s.heap.objs.size + 1) s.heap.objs.size 0 .none → h'.get? s.heap.objs.size = some o → h'.objs.size = s.heap.objs.size + 2 →
      (∀ b o, s.heap.get? b = some o → h'.get? b = some o) → Q (.ref (s.heap.objs.size + 1)) { s with heap := h' }) :
    wpAny (model prog w) A (call (.type "enumerate") [v]) Q E s := by
  refine callType_new F.called_enumerate (by decide) (F.typeCall_enumerate_1 _) (F.newCall_enumerate_1 _) (fun obj => F.args_object_init_2 obj _) F.entry_enumerate_new (meets_enum1 B) ⟨h1, ?_⟩
  have hz : (s.heap.push o).objs.size = s.heap.objs.size + 1 := Heap.size_push ..
  show _ ∧ _
  rw [hz]
  have he : IsEnum ((s.heap.push o).push { cls := .type "enumerate", data := .fields #[.none, .bool false, .ref s.heap.objs.size, rawInt 0, .none, .none] }) (s.heap.objs.size + 1) s.heap.objs.size 0 .none := by
    have := Heap.get?_push_size (s.heap.push o) (o := { cls := .type "enumerate", data := .fields #[.none, .bool false, .ref s.heap.objs.size, rawInt 0, .none, .none] }) rfl
    rw [hz] at this; exact this
  exact ⟨⟨_, he, rfl⟩, h _ he (Heap.get?_push_of_some _ (Heap.get?_push_size _ B.free)) (by rw [Heap.size_push, hz]) fun b o x => Heap.get?_push_of_some _ (Heap.get?_push_of_some _ x)⟩
end
/-- the tuple at a, each item in a new pair -/
def IteT (K : PySem.W.Frag) (a : Addr) : It :=
  ⟨fun i H => ∃ (xs : List V) (x : V), SqT K H a xs ∧ xs[i]? = some x, fun i H v H' => ∃ T x, v = .ref T ∧ H T = none ∧ H' = upd H T (.tup [.int (i : Nat), x]) ∧ ∀ xs, SqT K H a xs → xs[i]? = some x, fun i H => ∃ xs : List V, SqT K H a xs ∧ xs.length ≤ i⟩
theorem turn_enumT {P : Program} {w : World} {K : PySem.W.Frag} {elts : List Expr} {kk : Nat} {tpos : Pos} (a e it : Addr) (hea : e ≠ a) (hia : a ≠ it) :
    Turn P w K (.Tuple elts kk tpos) (IteT K a) [e, it] e (fun i h => (∃ old, IsEnum h e it ((i : Nat) : Int) old) ∧ h.IsTupleIter it a i ∧ e ≠ it) where
  mem := by simp
  obj := fun i h st b hb => by
    obtain ⟨⟨old, he⟩, ⟨o, ho, hc, hd⟩, _⟩ := st
    have e' : b = e ∨ b = it := by simpa using hb
    rcases e' with z | z
    · rw [z]; exact ⟨_, he, fun v q => nomatch q⟩
    · rw [z]; exact ⟨o, ho, fun v q => by rw [hd] at q; cases q⟩
  keep := fun i h h' st k => let ⟨⟨old, he⟩, hi, hne⟩ := st; ⟨⟨old, k e (by simp) _ he⟩, hi.at fun o q => k it (by simp) o q, hne⟩
  item := by
    intro X hP hw hK hc i pins s σ H E I hf st hg
    subst hP hw hK
    obtain ⟨⟨old, he⟩, hit, hne⟩ := st
    obtain ⟨xs, x, hq, hx⟩ := hg
    obtain ⟨its, rv, p, hz⟩ := I.tuple hq
    obtain ⟨u, hu, ru⟩ := rv.get hx
    have hel : e < s.heap.objs.size := Heap.lt_size he
    have hil : it < s.heap.objs.size := by obtain ⟨_, q, _⟩ := hit; exact Heap.lt_size q
    have hlt : i < its.toArray.size := by
      rw [List.size_toArray]
      exact (List.getElem?_eq_some_iff.mp hu).1
    refine wpAny_pyNext_enum_itemC (Draws.tuple (prog := X.prog) (w := X.w) (A := X.A.in1) (show X.A.in1.handled = none from I.ok.hd hc) it a hia its.toArray) he ⟨hit, show s.heap.IsTuple a its.toArray from p⟩ hlt hne (by simp [hne, hea]) fun y h' tk hy ho st' hT hsz hk => ?_
    have ey : y = u := by
      have e1 : its.toArray[i]? = some u := by simpa using hu
      rw [e1] at hy
      exact (Option.some.inj hy).symm
    subst ey
    refine ⟨_, rfl, wpAny_letOwnedTupleGo_enum (s := { s with heap := h', toks := tk + 1 }) ho fun h'' he' sb => ?_⟩
    have hT2 : h''.get? s.heap.objs.size = some { cls := .type "tuple", data := .seq #[.int i tk, y] } := (sb.2 _ (Nat.ne_of_gt hel)).trans hT
    have new : ObjOk X.prog X.w (upd H s.heap.objs.size (.tup [.int (i : Nat), x])) h'' s.heap.objs.size (.tup [.int (i : Nat), x]) :=
      ⟨by show 2 ≤ sizeLine; decide, [.int i tk, y], .cons ⟨_, rfl⟩ (.cons ru .nil), ⟨_, hT2, rfl, _, rfl⟩⟩
    have I1 : Inv X pins σ (upd H s.heap.objs.size (.tup [.int (i : Nat), x])) { s with heap := h'', toks := tk + 1 } :=
      I.turnedNew (ch := [e, it]) (fun b ob hb q => (sb.2 b (fun z => hb (by simp [z]))).trans (hk b ob (fun z => hb (by simp [z])) (fun z => hb (by simp [z])) q)) hf (Nat.le_refl _) new
    refine ⟨.ref s.heap.objs.size, _, I1, rfl, ⟨_, x, rfl, I.hok.fresh (Nat.le_refl _), rfl, fun ys hy => by rw [I.tuple_inj hy hq]; exact hx⟩, ⟨⟨y, ?_⟩, st'.1.at fun o q => (sb.2 it (Ne.symm hne)).trans q, hne⟩, fun b hb => ?_⟩
    · have e1 : ((i + 1 : Nat) : Int) = (i : Int) + 1 := by omega
      rw [e1]; exact he'
    · have hb' : b < s.heap.objs.size := by
        have e' : b = e ∨ b = it := by simpa using hb
        rcases e' with z | z
        · rw [z]; exact hel
        · rw [z]; exact hil
      rw [upd_ne (Nat.ne_of_lt hb')]
      exact (hf b hb).1
  done := by
    intro X hP hw hK hc i pins s σ H E I hf st hg
    subst hP hw hK
    obtain ⟨⟨old, he⟩, hit, hne⟩ := st
    obtain ⟨xs, hq, hx⟩ := hg
    obtain ⟨its, rv, p, hz⟩ := I.tuple hq
    obtain ⟨f0, f1, f2, f3, f4, f5⟩ := hf it (by simp)
    have hl := rv.length
    have hge : its.toArray[i]? = none := by
      rw [Array.getElem?_eq_none]
      rw [List.size_toArray]
      omega
    have D : Draws X.prog X.w X.A.in1 it [it, a] i (fun j v => True) (fun j h => h.IsTupleIter it a j ∧ h.IsTuple a its.toArray ∧ j = i) :=
      { live := fun _ _ st => let ⟨o, ho, _⟩ := st.1; ⟨o, ho⟩
        frame := fun _ _ _ st hk => ⟨st.1.at fun o e => hk it (by simp) o e, st.2.1.at fun o e => hk a (by simp) o e, st.2.2⟩
        item := fun j s Q E hi st hQ => by
          have := st.2.2
          omega
        done := fun s Q E st hE => wpAny_nextOf_tuple_end (show X.A.in1.handled = none from I.ok.hd hc) st.1 st.2.1 hge hE }
    exact wpAny_pyNext_enum_endD D he ⟨hit, show s.heap.IsTuple a its.toArray from p, rfl⟩ fun h' eb => ⟨rfl, I.turned (t' := s.toks) (fun b o hb q => eb b o hb q) f0 f1 f3 f4 f5⟩
  self := fun A i s Q E st h => let ⟨⟨_, he⟩, _⟩ := st; wpAny_pyIter_enum he h
/-- enumerate of a list, a tuple -/
def tEnumI (K : Fg) (ta : TA) : TI := fun σ H R => ta σ H fun vs H1 => ∃ a xs, vs = [.ref a] ∧ ((SqL K H1 a xs ∧ R (Ite K a) H1) ∨ (SqT K H1 a xs ∧ R (IteT K a) H1))
theorem pi_enumA {X : Cx} {e : Expr} {ta : TA} {p pos tpos : Pos} {elts : List Expr} {kk : Nat} (hg : Gl X "enumerate") (hm : X.mg "enumerate" = none) (ha : PA X [e] ta) (hs : starEach [e] X.env = [(false, eval e X.env)] := by rfl) :
    PI X (.Tuple elts kk tpos) (.Call (.Name "enumerate" p) [e] [] pos) (tEnumI X.K ta) := by
  refine ⟨fun pins s σ H R I h => ?_⟩
  refine Call_ (ld_blt I hg hm boot_enumerate (PyProof.Rows.callWith_type1 (thn (ha.run pos pins s σ H _ I h) fun us s1 ⟨vs, H1, I1, r1, q1⟩ => ?_) hs rfl))
  obtain ⟨a, xs, ex, q⟩ := q1
  subst ex
  cases r1 with
  | cons r rr =>
    cases rr
    cases r
    have fresh2 : ∀ b ∈ [s1.heap.objs.size + 1, s1.heap.objs.size], FpOk X pins H1 b := fun b hb => by
      have e' : b = s1.heap.objs.size + 1 ∨ b = s1.heap.objs.size := by simpa using hb
      have hle : s1.heap.objs.size ≤ b := by
        rcases e' with z | z
        · rw [z]; exact Nat.le_add_right _ _
        · rw [z]; exact Nat.le_refl _
      exact I1.fpOk hle (I1.hok.fresh hle)
    rcases q with ⟨hq, q⟩ | ⟨hq, q⟩
    · obtain ⟨its, rv, p', hz⟩ := I1.list hq
      refine call_enumerate_list p'.isList fun h' he hit hsz hk => wpAny_pyIter_enum he ?_
      have I2 : Inv X pins σ H1 { s1 with heap := h' } := I1.kept (t' := s1.toks) hk
      exact ⟨s1.heap.objs.size + 1, [s1.heap.objs.size + 1, s1.heap.objs.size], _, _, H1, rfl, I2, turn_enum a (s1.heap.objs.size + 1) s1.heap.objs.size, ⟨⟨.none, he⟩, hit, Nat.succ_ne_self _⟩, fresh2, q⟩
    · obtain ⟨its, rv, p', hz⟩ := I1.tuple hq
      obtain ⟨o1, ho1, _⟩ := id p'
      have hlt : a < s1.heap.objs.size := Heap.lt_size ho1
      refine call_enum1 (begins_tuple a its.toArray) (show s1.heap.IsTuple a its.toArray from p') fun h' he ho hsz hk => wpAny_pyIter_enum he ?_
      have I2 : Inv X pins σ H1 { s1 with heap := h' } := I1.kept (t' := s1.toks) hk
      exact ⟨s1.heap.objs.size + 1, [s1.heap.objs.size + 1, s1.heap.objs.size], _, _, H1, rfl, I2, turn_enumT a (s1.heap.objs.size + 1) s1.heap.objs.size (Nat.ne_of_gt (Nat.lt_succ_of_lt hlt)) (Nat.ne_of_lt hlt), ⟨⟨.none, he⟩, ⟨_, ho, rfl, rfl⟩, Nat.succ_ne_self _⟩, fresh2, q⟩
def enumW (ws : List W) : List W := ws.mapIdx fun i w => .tup [.int (i : Int), w]
theorem enumW_get {ws : List W} {i : Nat} {x : W} (h : (enumW ws)[i]? = some x) : ∃ w, ws[i]? = some w ∧ x = .tup [.int (i : Int), w] := by
  unfold enumW at h
  rw [List.getElem?_mapIdx] at h
  obtain ⟨w, h1, h2⟩ := Option.map_eq_some_iff.mp h
  exact ⟨w, h1, h2.symm⟩
theorem enumW_len {ws : List W} : (enumW ws).length = ws.length := by
  unfold enumW
  exact List.length_mapIdx
def iEnumerate (da : DA) : DI := fun env S Q => da env S fun us S1 => match us with
  | [w] => vSeqI w S1 fun ws still => Q (enumW ws) still
  | _ => False
theorem pair_ok {K : Fg} {r : List Addr} {H : Hp} {S : Sto} {T : Addr} {v1 v2 : V} {w1 w2 : W} (R : RelS K r H S) (hT : H T = none) (p1 : Rep K r H v1 w1) (p2 : Rep K r H v2 w2) :
    Ext K r H r (upd H T (.tup [v1, v2])) ∧ RelS K r (upd H T (.tup [v1, v2])) S ∧ Rep K r (upd H T (.tup [v1, v2])) (.ref T) (.tup [w1, w2]) :=
  ⟨ext_new hT, rel_new R hT, rep_tup hT (.cons p1 (.cons p2 .nil))⟩
theorem enumT_ok {K : Fg} {r : List Addr} {H : Hp} {a : Addr} {xs : List V} {ws : List W} (q : SqT K H a xs) (l : RepL K r H xs ws) : ItOk K (IteT K a) (enumW ws) (fun _ => True) r H := by
  refine ⟨fun r' H' S' i x e R _ hx => ?_, fun r' H' S' i e R _ hl => ⟨_, e.tup _ _ q, by rw [l.length]; rwa [enumW_len] at hl⟩⟩
  obtain ⟨w, hw, rfl⟩ := enumW_get hx
  obtain ⟨v, hv, pv⟩ := l.get hw
  refine ⟨⟨_, _, e.tup _ _ q, hv⟩, fun v' H3 hy => ?_⟩
  obtain ⟨T, y, rfl, hT, rfl, f⟩ := hy
  have := Option.some.inj ((f _ (e.tup _ _ q)).symm.trans hv)
  subst this
  exact pair_ok R hT (.int _) (pv.mono e)
theorem enumL_ok {K : Fg} {r : List Addr} {H : Hp} {a : Addr} {ws : List W} {still : Sto → Prop} (f : ∀ r' H' S', Ext K r H r' H' → RelS K r' H' S' → still S' → ∃ xs, SqL K H' a xs ∧ RepL K r' H' xs ws) : ItOk K (Ite K a) (enumW ws) still r H := by
  refine ⟨fun r' H' S' i x e R st hx => ?_, fun r' H' S' i e R st hl => ?_⟩
  · obtain ⟨xs, q, l⟩ := f r' H' S' e R st
    obtain ⟨w, hw, rfl⟩ := enumW_get hx
    obtain ⟨v, hv, pv⟩ := l.get hw
    refine ⟨⟨_, _, q, hv⟩, fun v' H3 hy => ?_⟩
    obtain ⟨T, y, rfl, hT, rfl, g⟩ := hy
    have := Option.some.inj ((g _ q).symm.trans hv)
    subst this
    exact pair_ok R hT (.int _) pv
  · obtain ⟨xs, q, l⟩ := f r' H' S' e R st
    exact ⟨xs, q, by rw [l.length]; rwa [enumW_len] at hl⟩
theorem seqI_cases {K : Fg} {r : List Addr} {H : Hp} {S : Sto} {v : V} {w : W} {Q : List W → (Sto → Prop) → Sto → Prop} (R : RelS K r H S) (p : Rep K r H v w) (h : vSeqI w S Q) :
    ∃ a, v = .ref a ∧ ∃ ws still, Q ws still S ∧ ((∃ xs, SqT K H a xs ∧ RepL K r H xs ws ∧ still = fun _ => True) ∨ ((∃ xs, SqL K H a xs) ∧ ∀ r' H' S', Ext K r H r' H' → RelS K r' H' S' → still S' → ∃ xs, SqL K H' a xs ∧ RepL K r' H' xs ws)) := by
  cases p with
  | @tup a xs ws q l => exact ⟨a, rfl, ws, _, h, .inl ⟨xs, q, l, rfl⟩⟩
  | @lit a xs ws q l => exact ⟨a, rfl, ws, _, h, .inr ⟨⟨_, q.1⟩, fun r' H' S' e _ _ => ⟨xs, (q.mono e.toKp).1, l.mono e⟩⟩⟩
  | @ref a i q =>
    obtain ⟨ws, hs, h⟩ := h
    obtain ⟨xs, h1, l⟩ := R.obj i a _ q hs
    refine ⟨a, rfl, ws, _, h, .inr ⟨⟨_, .of h1⟩, fun r' H' S' e R' st => ?_⟩⟩
    obtain ⟨ys, h2, l2⟩ := R'.obj i a _ (e.pre _ _ q) st
    exact ⟨ys, .of h2, l2⟩
  | _ => exact h.elim
theorem xi_enumerate {X : Cx} {e : Expr} {da : DA} {p pos tpos : Pos} {elts : List Expr} {kk : Nat} (hg : Gl X "enumerate") (hm : X.mg "enumerate" = none) (ha : XA X [e] da) (hs : starEach [e] X.env = [(false, eval e X.env)] := by rfl) :
    XI X (.Tuple elts kk tpos) (.Call (.Name "enumerate" p) [e] [] pos) (iEnumerate da) := by
  obtain ⟨t, p, s⟩ := ha.ex
  refine ⟨_, pi_enumA hg hm p hs, fun r H S st env Q Q0 R E g k => ?_⟩
  refine s r H S st env _ _ R E g fun r1 H1 S1 vs us e1 R1 q1 d1 => ?_
  cases q1 with
  | nil => exact d1.elim
  | cons a b =>
    cases b with
    | cons _ _ => exact d1.elim
    | nil =>
      obtain ⟨a, rfl, ws, still, q, h⟩ := seqI_cases R1 a d1
      rcases h with ⟨xs, hq, l, rfl⟩ | ⟨⟨xs, hq⟩, f⟩
      · exact ⟨_, xs, rfl, .inr ⟨hq, k r1 H1 S1 _ _ _ e1 R1 (enumT_ok hq l) q⟩⟩
      · exact ⟨_, xs, rfl, .inl ⟨hq, k r1 H1 S1 _ _ _ e1 R1 (enumL_ok f) q⟩⟩
end DL

/-! DLi: dict of pairs, dict copies; text methods; chains of equations for these. -/
namespace DL
open PySem PySem.Spec PyProof.Rows L2
def mergeW (kvs more : List (Key × W)) : List (Key × W) := more.foldl (fun acc kv => putW acc kv.1 kv.2) kvs
def pairW (kv : Key × W) : W := .tup [wK kv.1, kv.2]
section
variable {K : Fg} {r : List Addr} {H : Hp}
theorem rep_of_wK {v : V} {k : Key} (p : Rep K r H v (wK k)) : v = kV k := rep_key p (keyW_wK k)
theorem pairs_rep : ∀ {kws : List (Key × W)} {vs : List V}, RepL K r H vs (kws.map pairW) → ∃ (ps : List Addr) (kvs : List (Key × V)), vs = ps.map V.ref ∧ Paired (fun p kv => SqT K H p [kV kv.1, kv.2]) ps kvs ∧ RelKV K r H kvs kws
  | [], vs, l => by
    cases l
    exact ⟨[], [], rfl, .nil, kv_nil⟩
  | (k, w) :: kws, vs, l => by
    cases l with
    | cons a b =>
      obtain ⟨ps, kvs, e, h1, h2⟩ := pairs_rep b
      have a' : Rep K r H _ (.tup [wK k, w]) := a
      cases a' with
      | tup q m =>
        cases m with
        | cons m1 m =>
          cases m with
          | cons m2 m =>
            cases m
            have ek := rep_of_wK m1
            subst ek
            rename_i A v2
            exact ⟨A :: ps, (k, v2) :: kvs, by rw [e]; rfl, .cons q h1, kv_cons m2 h2⟩
theorem merge_sim : ∀ {more : List (Key × V)} {moreW : List (Key × W)} {acc : List (Key × V)} {accW : List (Key × W)}, RelKV K r H more moreW → RelKV K r H acc accW → RelKV K r H (mergeK acc more) (mergeW accW moreW)
  | more, [], acc, accW, l, m => by
    cases kv_empty l
    exact m
  | more, p :: moreW, acc, accW, l, m => by
    obtain ⟨v, vs', rfl, a, b⟩ := kv_inv l
    show RelKV K r H (mergeK (putK acc p.1 v) vs') (mergeW (putW accW p.1 p.2) moreW)
    exact merge_sim b (kv_put a m)
end
def vDict (xs : List W) (S : Sto) (Q : WK) : Prop := match xs with
  | [.ref p] => (∃ kws, S[p]? = some (.lst (kws.map pairW)) ∧ Q (.ref S.length) (S ++ [.dk (mergeW [] kws)])) ∨ ∃ kvs, S[p]? = some (.dk kvs) ∧ Q (.ref S.length) (S ++ [.dk kvs])
  | _ => False
theorem dict_sim {K : Fg} : SimC K (fun xs H Q => (∃ (a : Addr) (ps : List Addr) (kvs : List (Key × V)), xs = [.ref a] ∧ SqL K H a (ps.map V.ref) ∧ Paired (fun p kv => SqT K H p [kV kv.1, kv.2]) ps kvs ∧ ∀ p, H p = none → Q (.ref p) (upd H p (.dK (mergeK [] kvs)))) ∨
    ∃ (a : Addr) (kvs : List (Key × V)), xs = [.ref a] ∧ Rd H a (.dK kvs) ∧ ∀ p, H p = none → Q (.ref p) (upd H p (.dK kvs))) vDict := by
  intro r H S xs ws Q Q0 R l d k
  cases l with
  | nil => exact d.elim
  | cons p l =>
    cases l with
    | cons p' l' => cases p <;> exact d.elim
    | nil =>
      cases p <;> try exact d.elim
      rename_i a j h
      rcases d with ⟨kws, h0, q⟩ | ⟨kvs, h0, q⟩
      · obtain ⟨xs, h3, l⟩ := R.obj j _ _ h h0
        obtain ⟨ps, kvs, rfl, h1, h2⟩ := pairs_rep l
        exact .inl ⟨a, ps, kvs, rfl, .of h3, h1, fun p hp => k _ _ _ _ _ (ext_mem hp) (new_dk R hp (merge_sim h2 kv_nil)) (rep_mem R) q⟩
      · obtain ⟨vs, h3, l⟩ := R.obj j _ _ h h0
        exact .inr ⟨a, vs, rfl, .inl h3, fun p hp => k _ _ _ _ _ (ext_mem hp) (new_dk R hp l) (rep_mem R) q⟩
section
variable {X : Cx} {a b e o : Expr} {es : List Expr} {da db d0 : DE} {dA : DA} {pos p apos cpos : Pos}
theorem c_dict (hc : X.calm = true) (hg : Gl X "dict") (hm : X.mg "dict" = none) (ha : XA X (e :: es) dA) (he : starEach (e :: es) X.env = (false, eval e X.env) :: starEach es X.env := by rfl) (hpl : (backTo pos (starEach es X.env)).any (·.1) = false := by rfl) : XE X (.Call (.Name "dict" p) (e :: es) [] pos) (dCB vDict dA) :=
  xe_callTy (CallR.or (call_dictP hc) L2.call_dictD) dict_sim hg hm (by decide +kernel) ha (by decide) (by decide) he hpl
theorem m_isalpha (ho : XE X o d0) (hbase : attributeBase o "isalpha" X.env (eval o X.env) = eval o X.env := by rfl) (hline : (apos.endLine == cpos.line) = true := by rfl) :
    XE X (.Call (.Attribute o "isalpha" apos) [] [] cpos) (dBM0 "str" vIsalpha d0) :=
  xe_bm0 PySem.F.plainAttrs_str PySem.F.slot_str_isalpha PySem.F.type_str_isalpha mt_isalpha isalpha_sim ho hbase hline
end
/-! ### equations -/
section
variable {S : Sto} {Q : WK} {i : Nat}
theorem or_false_l {p q : Prop} (h : ¬ p) : (p ∨ q) = q := propext ⟨fun o => o.resolve_left h, .inr⟩
theorem or_false_r {p q : Prop} (h : ¬ q) : (p ∨ q) = p := propext ⟨fun o => o.resolve_right h, .inl⟩
theorem e_ixAT {ws : List W} {k : Int} {w : W} (h : atI ws k = some w) : vIxA (.tup ws) (.int k) S Q = Q w S := by
  unfold vIxA
  rw [or_false_r (show ¬ vIxD (.tup ws) (.int k) S Q from fun x => x), e_ixT h]
theorem e_ixALit {ws : List W} {k : Int} {w : W} (h : atI ws k = some w) : vIxA (.lit ws) (.int k) S Q = Q w S := by
  unfold vIxA
  rw [or_false_r (show ¬ vIxD (.lit ws) (.int k) S Q from fun x => x), e_ixLit h]
theorem e_ixAL {ws : List W} {k : Int} {w : W} (h0 : S[i]? = some (.lst ws)) (h : atI ws k = some w) : vIxA (.ref i) (.int k) S Q = Q w S := by
  unfold vIxA
  rw [or_false_r (fun ⟨kvs, _, _, x, _⟩ => by rw [h0] at x; cases x), e_ixL h0 h]
theorem e_ixAS {z : Str} {k : Int} {c : Nat} (h : atI z.cps.toList k = some c) : vIxA (.str z) (.int k) S Q = (z.length ≤ sizeLine ∧ Q (.str ⟨#[c]⟩) S) := by
  unfold vIxA
  rw [or_false_r (show ¬ vIxD (.str z) (.int k) S Q from fun x => x), e_ixS h]
theorem e_ixAD {kvs : List (Key × W)} {y w : W} {k : Key} (h0 : S[i]? = some (.dk kvs)) (hk : keyW y = some k) (h : valW kvs k = some w) : vIxA (.ref i) y S Q = Q w S := by
  unfold vIxA
  have n : ¬ vIx (.ref i) y S Q := fun x => by
    cases y <;> first | exact x | (obtain ⟨ws, w, e, _⟩ := x; rw [h0] at e; cases e)
  rw [or_false_l n]
  show (∃ kvs k w, S[i]? = some (.dk kvs) ∧ keyW y = some k ∧ valW kvs k = some w ∧ Q w S) = _
  exact propext ⟨fun ⟨kvs', k', w', a, b, c, q⟩ => by rw [h0] at a; cases a; rw [hk] at b; cases b; rw [h] at c; cases c; exact q, fun q => ⟨kvs, k, w, h0, hk, h, q⟩⟩
theorem e_setAL {ws : List W} {k : Int} {j : Nat} {v : W} {QS : Sto → Prop} (h0 : S[i]? = some (.lst ws)) (h : ixN ws.length k = some j) : vSetA (.ref i) (.int k) v S QS = QS (S.set i (.lst (ws.set j v))) := by
  unfold vSetA
  rw [or_false_r (fun ⟨kvs, _, x, _⟩ => by rw [h0] at x; cases x), e_set h0 h]
theorem e_setAD {kvs : List (Key × W)} {y v : W} {k : Key} {QS : Sto → Prop} (h0 : S[i]? = some (.dk kvs)) (hk : keyW y = some k) : vSetA (.ref i) y v S QS = (kvs.length < sizeLine ∧ QS (S.set i (.dk (putW kvs k v)))) := by
  unfold vSetA
  have n : ¬ vSet (.ref i) y v S QS := fun x => by
    cases y <;> first | exact x | (obtain ⟨ws, w, e, _⟩ := x; rw [h0] at e; cases e)
  rw [or_false_l n]
  show (∃ kvs k, S[i]? = some (.dk kvs) ∧ keyW y = some k ∧ kvs.length < sizeLine ∧ QS (S.set i (.dk (putW kvs k v)))) = _
  exact propext ⟨fun ⟨kvs', k', a, b, c, q⟩ => by rw [h0] at a; cases a; rw [hk] at b; cases b; exact ⟨c, q⟩, fun ⟨c, q⟩ => ⟨kvs, k, h0, hk, c, q⟩⟩
theorem e_dict0 {env : Slots} : dDict0 env S Q = Q (.ref S.length) (S ++ [.dk []]) := rfl
theorem e_inAL {n : Bool} {x : W} {ws : List W} (h : S[i]? = some (.lst ws)) : vInA n x (.ref i) S Q = (flW x = true ∧ ws.all flW = true ∧ Q (.bl (n ^^ inW x ws)) S) := by
  unfold vInA
  rw [or_false_r (fun ⟨kvs, _, e, _⟩ => by rw [h] at e; cases e), e_in h]
theorem e_inAT {n : Bool} {x : W} {ws : List W} : vInA n x (.tup ws) S Q = (flW x = true ∧ ws.all flW = true ∧ Q (.bl (n ^^ inW x ws)) S) := by
  unfold vInA
  rw [or_false_r (show ¬ vInD n x (.tup ws) S Q from fun x => x), e_inT]
theorem e_inAD {n : Bool} {x : W} {kvs : List (Key × W)} {k : Key} (h : S[i]? = some (.dk kvs)) (hk : keyW x = some k) : vInA n x (.ref i) S Q = Q (.bl (n ^^ (valW kvs k).isSome)) S := by
  unfold vInA
  have no : ¬ vIn n x (.ref i) S Q := fun ⟨ws, e, _⟩ => by
    have e' : (match S[i]? with | some (.lst ws) => some ws | _ => none) = some ws := e
    rw [h] at e'
    cases e'
  rw [or_false_l no]
  show (∃ kvs k, S[i]? = some (.dk kvs) ∧ keyW x = some k ∧ Q (.bl (n ^^ (valW kvs k).isSome)) S) = _
  exact propext ⟨fun ⟨kvs', k', a, b, q⟩ => by rw [h] at a; cases a; rw [hk] at b; cases b; exact q, fun q => ⟨kvs, k, h, hk, q⟩⟩
theorem e_inAS {n : Bool} {c : Nat} {z : Str} : vInA n (.str ⟨#[c]⟩) (.str z) S Q = Q (.bl (n ^^ decide (c ∈ z.cps.toList))) S := by
  unfold vInA
  rw [or_false_l (fun ⟨ws, e, _⟩ => by cases e)]
  exact propext ⟨fun ⟨c', e, q⟩ => by cases e; exact q, fun q => ⟨c, rfl, q⟩⟩
theorem e_listAT {ws : List W} : vListA [.tup ws] S Q = Q (.ref S.length) (S ++ [.lst ws]) := by
  unfold vListA
  rw [or_false_r (show ¬ vListD [.tup ws] S Q from fun x => x), e_listT]
theorem e_listALit {ws : List W} : vListA [.lit ws] S Q = Q (.ref S.length) (S ++ [.lst ws]) := by
  unfold vListA
  rw [or_false_r (show ¬ vListD [.lit ws] S Q from fun x => x), e_listLit]
theorem e_listAL {ws : List W} (h : S[i]? = some (.lst ws)) : vListA [.ref i] S Q = Q (.ref S.length) (S ++ [.lst ws]) := by
  unfold vListA
  rw [or_false_r (fun ⟨kvs, e, _⟩ => by rw [h] at e; cases e), e_listL h]
theorem e_listAD {kvs : List (Key × W)} (h : S[i]? = some (.dk kvs)) : vListA [.ref i] S Q = Q (.ref S.length) (S ++ [.lst (kvs.map fun kv => wK kv.1)]) := by
  unfold vListA
  have no : ¬ vList [.ref i] S Q := fun ⟨ws, e, _⟩ => by
    have e' : (match S[i]? with | some (.lst ws) => some ws | _ => none) = some ws := e
    rw [h] at e'
    cases e'
  rw [or_false_l no]
  show (∃ kvs, S[i]? = some (.dk kvs) ∧ Q (.ref S.length) (S ++ [.lst (kvs.map fun kv => wK kv.1)])) = _
  exact propext ⟨fun ⟨kvs', e, q⟩ => by rw [h] at e; cases e; exact q, fun q => ⟨kvs, h, q⟩⟩
theorem e_max2 {a b : Int} : vMaxA [.int a, .int b] S Q = Q (.int (max a b)) S := by
  unfold vMaxA
  refine propext ⟨fun h => ?_, fun q => .inl ⟨a, b, rfl, q⟩⟩
  rcases h with ⟨i, j, e, q⟩ | ⟨p, ns, e, _⟩
  · cases e
    exact q
  · cases e
theorem e_extend {j : Nat} {ws us : List W} (h : S[i]? = some (.lst ws)) (h2 : S[j]? = some (.lst us)) : vExtend (.ref i) [.ref j] S Q = (ws.length + us.length ≤ sizeLine ∧ Q .non (S.set i (.lst (ws ++ us)))) := by
  show (∃ zs us, S[i]? = some (.lst zs) ∧ S[j]? = some (.lst us) ∧ zs.length + us.length ≤ sizeLine ∧ Q .non (S.set i (.lst (zs ++ us)))) = _
  exact propext ⟨fun ⟨a, b, e1, e2, c, q⟩ => by rw [h] at e1; cases e1; rw [h2] at e2; cases e2; exact ⟨c, q⟩, fun ⟨c, q⟩ => ⟨ws, us, h, h2, c, q⟩⟩
theorem e_isalpha {a : Str} : vIsalpha (.str a) [] S Q = Q (.bl (Txt.isalpha a)) S := rfl
theorem e_dictP {kws : List (Key × W)} (h : S[i]? = some (.lst (kws.map pairW))) : vDict [.ref i] S Q = Q (.ref S.length) (S ++ [.dk (mergeW [] kws)]) := by
  have inj : ∀ {a b : List (Key × W)}, a.map pairW = b.map pairW → a = b := by
    intro a
    induction a with
    | nil => intro b e; cases b with | nil => rfl | cons _ _ => cases e
    | cons p a ih =>
      intro b e
      cases b with
      | nil => cases e
      | cons q b =>
        rw [List.map_cons, List.map_cons] at e
        have e1 := (List.cons.inj e).1
        have e2 := ih (List.cons.inj e).2
        obtain ⟨k, w⟩ := p
        obtain ⟨k2, w2⟩ := q
        have e3 : W.tup [wK k, w] = W.tup [wK k2, w2] := e1
        have e4 := (List.cons.inj (W.tup.inj e3)).1
        have e5 := (List.cons.inj (List.cons.inj (W.tup.inj e3)).2).1
        have e6 : k = k2 := by
          have z := congrArg keyW e4
          rw [keyW_wK, keyW_wK] at z
          exact Option.some.inj z
        rw [e2, e5, e6]
  show ((∃ kws, S[i]? = some (.lst (kws.map pairW)) ∧ Q (.ref S.length) (S ++ [.dk (mergeW [] kws)])) ∨ ∃ kvs, S[i]? = some (.dk kvs) ∧ Q (.ref S.length) (S ++ [.dk kvs])) = _
  refine propext ⟨fun o => ?_, fun q => .inl ⟨kws, h, q⟩⟩
  rcases o with ⟨kws', e, q⟩ | ⟨kvs, e, _⟩
  · rw [h] at e
    have e2 := inj (O.lst.inj (Option.some.inj e))
    rw [e2]
    exact q
  · rw [h] at e
    cases e
theorem e_dictD {kvs : List (Key × W)} (h : S[i]? = some (.dk kvs)) : vDict [.ref i] S Q = Q (.ref S.length) (S ++ [.dk kvs]) := by
  show ((∃ kws, S[i]? = some (.lst (kws.map pairW)) ∧ Q (.ref S.length) (S ++ [.dk (mergeW [] kws)])) ∨ ∃ kvs, S[i]? = some (.dk kvs) ∧ Q (.ref S.length) (S ++ [.dk kvs])) = _
  refine propext ⟨fun o => ?_, fun q => .inr ⟨kvs, h, q⟩⟩
  rcases o with ⟨kws', e, q⟩ | ⟨kvs', e, q⟩
  · rw [h] at e
    cases e
  · rw [h] at e
    cases e
    exact q
variable {da : DA} {env : Slots} {QI : List W → (Sto → Prop) → Sto → Prop}
theorem e_enum : iEnumerate da env S QI = da env S fun us S1 => match us with
  | [w] => vSeqI w S1 fun ws still => QI (enumW ws) still
  | _ => False := rfl
end
/-! ### comprehensions whose target is a tuple -/
section
variable {X : Cx} {pos : Pos}
theorem xe_compT {elt iter : Expr} {es : List Expr} {kt n : Nat} {tpos : Pos} {ifs : List Expr} {scope : Scope} {di : DI} {ts : TGs} {gs : DGs} {dt : DT} {de : DE} (own : List (Str × Nat)) (hc : X.calm = true) (hN : X.N.Nodup) (hi : XI X (.Tuple es kt tpos) iter di) (ok : BlkOk X.N X.env.scope scope own)
    (hg : ∀ (s : Shared) (H : Hp) (C : Addr) (cl : List (Str × Addr)) (fp : List Addr), XCGs (X.blk s H scope (compEnvC scope cl C X.env) fp) (own.map (·.2)) es ts gs)
    (ht : ∀ (s : Shared) (H : Hp) (C : Addr) (cl : List (Str × Addr)) (fp : List Addr), XTs (X.blk s H scope (compEnvC scope cl C X.env) fp) ifs dt)
    (he : ∀ (s : Shared) (H : Hp) (C : Addr) (cl : List (Str × Addr)) (fp : List Addr), XE (X.blk s H scope (compEnvC scope cl C X.env) fp) elt de)
    (hn : ∀ env, (assignEach es env).length = n := by intro _; rfl) (hst : ∀ env, (assignEach es env).findIdx? (·.1) = none := by intro _; rfl)
    (hs : ∀ x, foldedSetIterable iter X.env x = pure x := by intro _; rfl) : XE X (.ListComp elt [⟨.Tuple es kt tpos, iter, ifs, 0⟩] scope pos) (dComp di (gTp n gs) dt de (own.map (·.2))) :=
  xe_comp (t := gTup X.K n ts) own hc hN hi ok (fun s H C cl fp => xcg_tup (X := X.blk s H scope (compEnvC scope cl C X.env) fp) hc (hg s H C cl fp) (hn _) (hst _)) ht he hs
theorem xs_setCompT {y : Str} {py spos : Pos} {elt iter : Expr} {es : List Expr} {kt n : Nat} {tpos : Pos} {ifs : List Expr} {scope : Scope} {di : DI} {ts : TGs} {gs : DGs} {dt : DT} {de : DE} (i : Nat) (own : List (Str × Nat)) (hc : X.calm = true) (hN : X.N.Nodup) (hi : XI X (.Tuple es kt tpos) iter di) (ok : BlkOk X.N X.env.scope scope own)
    (hg : ∀ (s : Shared) (H : Hp) (C : Addr) (cl : List (Str × Addr)) (fp : List Addr), XCGs (X.blk s H scope (compEnvC scope cl C X.env) fp) (own.map (·.2)) es ts gs)
    (ht : ∀ (s : Shared) (H : Hp) (C : Addr) (cl : List (Str × Addr)) (fp : List Addr), XTs (X.blk s H scope (compEnvC scope cl C X.env) fp) ifs dt)
    (he : ∀ (s : Shared) (H : Hp) (C : Addr) (cl : List (Str × Addr)) (fp : List Addr), XE (X.blk s H scope (compEnvC scope cl C X.env) fp) elt de)
    (hsw : swapsWith (.ListComp elt [⟨.Tuple es kt tpos, iter, ifs, 0⟩] scope pos) (some (.Name y py)) spos.line X.env = pure true)
    (hn : ∀ env, (assignEach es env).length = n := by intro _; rfl) (hst : ∀ env, (assignEach es env).findIdx? (·.1) = none := by intro _; rfl)
    (hy : X.N[i]? = some y := by rfl) (hyl : X.env.scope.names.lookup y = some .local := by rfl) (hs : ∀ x, foldedSetIterable iter X.env x = pure x := by intro _; rfl) :
    XS X (.Assign [.Name y py] (.ListComp elt [⟨.Tuple es kt tpos, iter, ifs, 0⟩] scope pos) spos) (dAsg (dComp di (gTp n gs) dt de (own.map (·.2))) (gNm i)) :=
  xs_setComp (t := gTup X.K n ts) i own hc hN hi ok (fun s H C cl fp => xcg_tup (X := X.blk s H scope (compEnvC scope cl C X.env) fp) hc (hg s H C cl fp) (hn _) (hst _)) ht he hsw hy hyl hs
end
/-! ### len, any size -/
def vLenD (xs : List W) (S : Sto) (Q : WK) : Prop := match xs with
  | [.ref p] => ∃ kvs, S[p]? = some (.dk kvs) ∧ Q (.int kvs.length) S
  | _ => False
theorem lenD_sim {K : Fg} : SimC K (fun xs H Q => ∃ a kvs, xs = [V.ref a] ∧ H a = some (.dK kvs) ∧ Q (.int kvs.length) H) vLenD := by
  intro r H S xs ws Q Q0 R l d k
  cases l with
  | nil => exact d.elim
  | cons p l =>
    cases l with
    | cons p' l' => cases p <;> exact d.elim
    | nil =>
      cases p <;> try exact d.elim
      rename_i a j h
      obtain ⟨kvs, h0, q⟩ := d
      obtain ⟨vs, h3, l⟩ := R.obj j _ _ h h0
      exact ⟨a, vs, rfl, h3, by rw [kv_len l]; exact k r H S _ _ .refl R (.int _) q⟩
def vLenA (xs : List W) (S : Sto) (Q : WK) : Prop := vLen xs S Q ∨ vLenD xs S Q
section
variable {X : Cx} {e : Expr} {es : List Expr} {dA : DA} {pos p : Pos}
theorem c_lenA (hg : Gl X "len") (hm : X.mg "len" = none) (ha : XA X (e :: es) dA) (he : starEach (e :: es) X.env = (false, eval e X.env) :: starEach es X.env := by rfl) (hpl : (backTo pos (starEach es X.env)).any (·.1) = false := by rfl) : XE X (.Call (.Name "len" p) (e :: es) [] pos) (dCB vLenA dA) :=
  xe_callB (CallR.or call_len call_lenD) (SimC.or len_sim lenD_sim) hg hm PySem.boot_len ha (by decide) (by decide) he hpl
end
section
variable {S : Sto} {Q : WK} {i : Nat}
theorem e_lenAS {z : Str} : vLenA [.str z] S Q = (z.length ≤ sizeLine ∧ Q (.int z.length) S) := by
  unfold vLenA
  rw [or_false_r (show ¬ vLenD [.str z] S Q from fun x => x), e_lenS]
theorem e_lenAT {ws : List W} : vLenA [.tup ws] S Q = Q (.int ws.length) S := by
  unfold vLenA
  rw [or_false_r (show ¬ vLenD [.tup ws] S Q from fun x => x), e_lenT]
theorem e_lenALit {ws : List W} : vLenA [.lit ws] S Q = Q (.int ws.length) S := by
  unfold vLenA
  rw [or_false_r (show ¬ vLenD [.lit ws] S Q from fun x => x), e_lenLit]
theorem e_lenAL {ws : List W} (h : S[i]? = some (.lst ws)) : vLenA [.ref i] S Q = Q (.int ws.length) S := by
  unfold vLenA
  rw [or_false_r (fun ⟨kvs, e, _⟩ => by rw [h] at e; cases e), e_lenL h]
theorem e_lenAD {kvs : List (Key × W)} (h : S[i]? = some (.dk kvs)) : vLenA [.ref i] S Q = Q (.int kvs.length) S := by
  unfold vLenA
  have no : ¬ vLen [.ref i] S Q := fun ⟨ws, e, _⟩ => by
    have e' : (match S[i]? with | some (.lst ws) => some ws | _ => none) = some ws := e
    rw [h] at e'
    cases e'
  rw [or_false_l no]
  show (∃ kvs, S[i]? = some (.dk kvs) ∧ Q (.int kvs.length) S) = _
  exact propext ⟨fun ⟨kvs', e, q⟩ => by rw [h] at e; cases e; exact q, fun q => ⟨kvs, h, q⟩⟩
end
/-! ### keys -/
theorem putW_new {kvs : List (Key × W)} {k : Key} {w : W} (h : valW kvs k = none) : putW kvs k w = kvs ++ [(k, w)] := by
  unfold putW
  rw [if_neg]
  intro a
  obtain ⟨p, hp, e⟩ := List.any_eq_true.mp a
  unfold valW at h
  have h2 := List.find?_eq_none.mp (Option.map_eq_none_iff.mp h) p hp
  exact h2 e
theorem valW_map {α : Type} {f : α → W} {g : α → Str} {x : Str} : ∀ {xs : List α}, (∀ a ∈ xs, ∀ b ∈ xs, g a = g b → a = b) → ∀ {a : α}, a ∈ xs → g a = x → valW (xs.map fun a => (Sum.inr (g a), f a)) (.inr x) = some (f a)
  | [], _, a, h, _ => by cases h
  | b :: xs, inj, a, h, e => by
    unfold valW
    rw [List.map_cons, List.find?_cons]
    by_cases hb : g b = x
    · have eab : b = a := inj b (List.mem_cons_self ..) a h (hb.trans e.symm)
      subst eab
      simp [hb]
    · have hne : decide ((Sum.inr (g b), f b).1 = (Sum.inr x : Key)) = false := by simp [hb]
      rw [hne]
      have hm : a ∈ xs := by
        rcases List.mem_cons.mp h with rfl | h
        · exact absurd e hb
        · exact h
      exact valW_map (fun c hc d hd => inj c (List.mem_cons_of_mem _ hc) d (List.mem_cons_of_mem _ hd)) hm e
theorem valW_none {α : Type} {f : α → W} {g : α → Str} {x : Str} : ∀ {xs : List α}, (∀ a ∈ xs, g a ≠ x) → valW (xs.map fun a => (Sum.inr (g a), f a)) (.inr x) = none
  | [], _ => rfl
  | b :: xs, h => by
    unfold valW
    rw [List.map_cons, List.find?_cons]
    have hne : decide ((Sum.inr (g b), f b).1 = (Sum.inr x : Key)) = false := by simp [h b (List.mem_cons_self ..)]
    rw [hne]
    exact valW_none fun a ha => h a (List.mem_cons_of_mem _ ha)
end DL

/-! DLj: what the laws' proofs share: the drawing state, ranges, lists of texts, sorted texts. -/
namespace DL
open PySem PySem.Spec PyProof.Rows L2
theorem sz0 : (0 ≤ sizeLine) = True := eq_true (Nat.zero_le _)
theorem sz1 : (1 ≤ sizeLine) = True := eq_true (by decide)
theorem sz2 : (2 ≤ sizeLine) = True := eq_true (by decide)
theorem sz3 : (3 ≤ sizeLine) = True := eq_true (by decide)
theorem sz4 : (4 ≤ sizeLine) = True := eq_true (by decide)
theorem sz5 : (5 ≤ sizeLine) = True := eq_true (by decide)
theorem sz6 : (6 ≤ sizeLine) = True := eq_true (by decide)
theorem le_sz {n : Nat} (h : n ≤ 99999) : n ≤ sizeLine := Nat.le_trans h (by decide)
theorem lt_sz {n : Nat} (h : n ≤ 99998) : n < sizeLine := Nat.lt_of_le_of_lt h (by decide)
abbrev stro (xs : List Str) : O := .lst (xs.map W.str)
structure Dr where
  cells : List Int
  seed : Int
/-- the drawing state: a list of cells, and the pair of it and a number, at 1 -/
abbrev B (st : Dr) (R : Sto) : Sto := .lst (st.cells.map W.int) :: .lst [.ref 0, .int st.seed] :: R
theorem closed_B {st st' : Dr} {R : Sto} (h : Closed (B st R)) : Closed (B st' R) := by
  rw [closed_iff] at h ⊢
  intro o ho
  rcases List.mem_cons.mp ho with rfl | ho
  · exact bndL_ints _ _
  · rcases List.mem_cons.mp ho with rfl | ho
    · show (decide (0 < R.length + 1 + 1) && (true && true)) = true
      simp
    · exact h o (List.mem_cons_of_mem _ (List.mem_cons_of_mem _ ho))
theorem endB {st st' : Dr} {R : Sto} {Q : WK} {w : W} (cl : Closed (B st R)) (hp : w.pure = true) (q : Q w (B st' R)) : Ends0 (R.length + 1 + 1) Q w (B st' R) :=
  Ends0.keep (Nat.le_refl _) (closed_B cl) (pure_bnd _ _ hp) q
theorem endBT {st st' : Dr} {R : Sto} {Q : WK} {w : W} (T : Sto) (cl : Closed (B st R)) (hp : w.pure = true) (q : Q w (B st' R)) : Ends0 (R.length + 1 + 1) Q w (B st' (R ++ T)) :=
  Ends0.drop (S0 := B st' R) T (Nat.le_refl _) (closed_B cl) (pure_bnd _ _ hp) q
theorem closed_BR {st : Dr} {R : Sto} (h : ∀ o ∈ R, o.bnd (R.length + 1 + 1) = true) : Closed (B st R) := by
  rw [closed_iff]
  intro o ho
  rcases List.mem_cons.mp ho with rfl | ho
  · exact bndL_ints _ _
  · rcases List.mem_cons.mp ho with rfl | ho
    · show (decide (0 < R.length + 1 + 1) && (true && true)) = true
      simp
    · exact h o ho
theorem closed_set {st st' : Dr} {R : Sto} {j : Nat} {o : O} (h : Closed (B st R)) (ho : o.bnd (R.length + 1 + 1) = true) : Closed (B st' (R.set j o)) := by
  have h' := closed_B (st' := st') h
  rw [closed_iff] at h' ⊢
  intro x hx
  have e : (B st' (R.set j o)).length = (B st' R).length := by simp
  rw [e]
  rcases List.mem_cons.mp hx with rfl | hx
  · exact h' _ (List.mem_cons_self ..)
  · rcases List.mem_cons.mp hx with rfl | hx
    · exact h' _ (List.mem_cons_of_mem _ (List.mem_cons_self ..))
    · rcases List.mem_or_eq_of_mem_set hx with hx | rfl
      · exact h' _ (List.mem_cons_of_mem _ (List.mem_cons_of_mem _ hx))
      · exact ho
theorem rng_get {n i : Nat} {x : W} (h : (rngW 0 n)[i]? = some x) : i < n ∧ x = .int (i : Int) := by
  unfold rngW at h
  rw [List.getElem?_map] at h
  by_cases hi : i < n
  · rw [List.getElem?_range hi] at h
    refine ⟨hi, ?_⟩
    have := Option.some.inj h
    rw [← this]
    simp
  · rw [List.getElem?_eq_none (by simpa using hi)] at h
    cases h
theorem rng_len {lo : Int} {n : Nat} : (rngW lo n).length = n := by
  unfold rngW
  rw [List.length_map, List.length_range]
theorem map_get {α : Type} {f : α → W} {xs : List α} {i : Nat} {x : W} (h : (xs.map f)[i]? = some x) : ∃ a, xs[i]? = some a ∧ x = f a ∧ a ∈ xs ∧ i < xs.length := by
  rw [List.getElem?_map] at h
  obtain ⟨a, h1, h2⟩ := Option.map_eq_some_iff.mp h
  exact ⟨a, h1, h2.symm, List.mem_of_getElem? h1, (List.getElem?_eq_some_iff.mp h1).1⟩
theorem at_map {α : Type} {f : α → W} {xs : List α} {r : Int} (h0 : 0 ≤ r) (h1 : r < xs.length) : ∃ x, x ∈ xs ∧ xs[r.toNat]? = some x ∧ atI (xs.map f) r = some (f x) := by
  have hl : r.toNat < xs.length := by omega
  refine ⟨xs[r.toNat], List.getElem_mem hl, List.getElem?_eq_getElem hl, ?_⟩
  have e : r = ((r.toNat : Nat) : Int) := by omega
  exact (congrArg (atI (xs.map f)) e).trans (atI_nat (by rw [List.getElem?_map]; simp [hl]))
theorem flW_strs (xs : List Str) : (xs.map W.str).all flW = true := by
  rw [List.all_map]
  exact List.all_eq_true.mpr fun _ _ => rfl
theorem inW_strs (x : Str) : ∀ xs : List Str, inW (.str x) (xs.map W.str) = decide (x ∈ xs)
  | [] => rfl
  | y :: ys => by
    show (eqW (.str y) (.str x) || inW (.str x) (ys.map W.str)) = _
    rw [inW_strs x ys]
    show ((y == x) || decide (x ∈ ys)) = decide (x ∈ y :: ys)
    by_cases h : y = x
    · subst h
      simp
    · have h2 : ¬ x = y := fun e => h e.symm
      simp [h, h2]
theorem pop1_ok {S : Sto} {Q : WK} {i j : Nat} {zs : List W} {n : Int} {y : W} (h : S[i]? = some (.lst zs)) (e : n = (j : Int)) (hy : zs[j]? = some y) (hl : zs.length ≤ 99999) (q : Q y (S.set i (.lst (zs.eraseIdx j)))) : vPop1 (.ref i) [.int n] S Q := by
  have hj := (List.getElem?_eq_some_iff.mp hy).1
  subst e
  refine ⟨zs, j, y, h, ?_, ?_, ixN_nat hj, hy, q⟩
  · have : (0 : Int) ≤ (j : Int) := Int.natCast_nonneg _
    have h2 : -(2 ^ 63 : Int) ≤ 0 := by decide
    omega
  · have h2 : (99999 : Int) < 2 ^ 63 := by decide
    omega
/-! ### sorted texts -/
theorem alike_strs (xs : List Str) : PySem.W.AllAlike ((xs.map W.str).map datW) := by
  intro x hx y hy
  rw [List.map_map] at hx hy
  obtain ⟨a, _, rfl⟩ := List.mem_map.mp hx
  obtain ⟨b, _, rfl⟩ := List.mem_map.mp hy
  rfl
theorem sortable_strs (xs : List Str) : PySem.W.Sortable ((xs.map W.str).map datW) := by
  refine .inr fun x hx => ?_
  rw [List.map_map] at hx
  obtain ⟨a, _, rfl⟩ := List.mem_map.mp hx
  show PyData.str a ≠ .none ∧ ∀ ys, PyData.str a ≠ .tuple ys
  exact ⟨by simp, by simp⟩
theorem depth_strs (xs : List Str) : ∀ w ∈ xs.map W.str, (datW w).depth ≤ 60 := by
  intro w hw
  obtain ⟨a, _, rfl⟩ := List.mem_map.mp hw
  show (PyData.str a).depth ≤ 60
  simp only [PyData.depth]
  decide
def strLe (a b : Str) : Bool := leW (.str a) (.str b)
theorem sorted_strs (xs : List Str) : (xs.map W.str).mergeSort leW = (xs.mergeSort strLe).map W.str :=
  (List.map_mergeSort (r := strLe) (s := leW) (f := W.str) (l := xs) fun _ _ _ _ => rfl).symm
theorem sorted_strs_ok {S : Sto} {Q : WK} {i : Nat} {xs : List Str} (h : S[i]? = some (stro xs)) (q : Q (.ref S.length) (S ++ [stro (xs.mergeSort strLe)])) : vSorted [.ref i] S Q := by
  refine ⟨xs.map W.str, h, pureL_strs xs, alike_strs xs, sortable_strs xs, depth_strs xs, ?_⟩
  rw [sorted_strs]
  exact q
end DL

/-! DLk: membership of any data in a list. -/
namespace DL
open PySem PySem.Spec PyProof.Rows L2
def vInP (neg : Bool) (x y : W) (S : Sto) (Q : WK) : Prop := match y with
  | .ref p => ∃ ws, S[p]? = some (.lst ws) ∧ x.pure = true ∧ W.pureL ws = true ∧ SeqAt.shaped (datW x) = true ∧ SeqAt.shaped (.list (datWs ws)) = true ∧ Q (.bl (neg ^^ (datWs ws).any fun z => PyData.eqv z (datW x))) S
  | _ => False
theorem dp_list {K : Fg} {r : List Addr} {H : Hp} {a : Addr} {vs : List V} {ws : List W} (h : H a = some (.lst vs)) (l : RepL K r H vs ws) (p : W.pureL ws = true) : Dp K H (.ref a) (.list (datWs ws)) := .lst (.of h) (dpL_of l p)
theorem inP_sim {K : Fg} : SimR K (rInD K) (vInP false) := by
  intro r H S x y wx wy Q Q0 R px py d k
  cases py <;> try exact d.elim
  rename_i a j h
  obtain ⟨ws, h0, p1, p2, s1, s2, q⟩ := d
  obtain ⟨vs, h3, l⟩ := R.obj j _ _ h h0
  rw [Bool.false_xor] at q
  exact ⟨_, _, dp_of px p1, dp_list h3 l p2, s1, s2, k r H S _ _ .refl R (.bl _) q⟩
theorem notinP_sim {K : Fg} : SimR K (rNotInD K) (vInP true) := by
  intro r H S x y wx wy Q Q0 R px py d k
  cases py <;> try exact d.elim
  rename_i a j h
  obtain ⟨ws, h0, p1, p2, s1, s2, q⟩ := d
  obtain ⟨vs, h3, l⟩ := R.obj j _ _ h h0
  rw [Bool.true_xor] at q
  exact ⟨_, _, dp_of px p1, dp_list h3 l p2, s1, s2, k r H S _ _ .refl R (.bl _) q⟩
section
variable {X : Cx} {a b : Expr} {da db : DE} {pos : Pos} {k : Nat}
theorem u65 (hr : Room k X.A) : X.A.units + 65 < cLine := by have := hr.un; omega
theorem x_inP (hr : Room k X.A) (ha : XE X a da) (hb : XE X b db) (hm : behindInMarks .In b = false := by rfl) : XE X (.Compare a [.In] [b] pos) (dOp (vInP false) da db) := xe_cmp (op_inD (u65 hr)) inP_sim ha hb hm
theorem x_notinP (hr : Room k X.A) (ha : XE X a da) (hb : XE X b db) (hm : behindInMarks .NotIn b = false := by rfl) : XE X (.Compare a [.NotIn] [b] pos) (dOp (vInP true) da db) := xe_cmp (op_notInD (u65 hr)) notinP_sim ha hb hm
theorem t_inP (hr : Room k X.A) (ha : XE X a da) (hb : XE X b db) (hm : behindInMarks .In b = false := by rfl) : XT X (.Compare a [.In] [b] pos) (dB (dOp (vInP false) da db)) := xt_cmp (op_inD (u65 hr)) inP_sim ha hb hm
theorem t_notinP (hr : Room k X.A) (ha : XE X a da) (hb : XE X b db) (hm : behindInMarks .NotIn b = false := by rfl) : XT X (.Compare a [.NotIn] [b] pos) (dB (dOp (vInP true) da db)) := xt_cmp (op_notInD (u65 hr)) notinP_sim ha hb hm
end
/-! ### tuples of texts -/
abbrev tupS (xs : List Str) : W := .tup (xs.map W.str)
theorem dat_strs : ∀ xs : List Str, datWs (xs.map W.str) = xs.map PyData.str
  | [] => rfl
  | x :: xs => by
    show PyData.str x :: datWs (xs.map W.str) = _
    rw [dat_strs xs]
    rfl
theorem lay_strs : ∀ xs : List Str, (∀ x ∈ xs, PyData.strOk x = true) → PyData.canLayAll0 (xs.map PyData.str) = true
  | [], _ => by simp [PyData.canLayAll0]
  | x :: xs, h => by
    have h1 := h x (List.mem_cons_self ..)
    have h2 := lay_strs xs fun y hy => h y (List.mem_cons_of_mem _ hy)
    simp [PyData.canLayAll0, PyData.canLay0, h1, h2]
theorem dep_strs : ∀ xs : List Str, PyData.depthAll (xs.map PyData.str) = 0
  | [] => by simp [PyData.depthAll]
  | x :: xs => by simp [PyData.depthAll, PyData.depth, dep_strs xs]
theorem shaped_tupS {xs : List Str} (h : ∀ x ∈ xs, PyData.strOk x = true) : SeqAt.shaped (datW (tupS xs)) = true := by
  show SeqAt.shaped (.tuple (datWs (xs.map W.str))) = true
  rw [dat_strs]
  simp [SeqAt.shaped, PyData.canLay0, PyData.depth, lay_strs xs h, dep_strs]
theorem dat_tups : ∀ xss : List (List Str), datWs (xss.map tupS) = xss.map fun xs => PyData.tuple (xs.map PyData.str)
  | [] => rfl
  | xs :: xss => by
    show PyData.tuple (datWs (xs.map W.str)) :: datWs (xss.map tupS) = _
    rw [dat_strs, dat_tups xss]
    rfl
theorem lay_tups : ∀ xss : List (List Str), (∀ xs ∈ xss, ∀ x ∈ xs, PyData.strOk x = true) → PyData.canLayAll0 (xss.map fun xs => PyData.tuple (xs.map PyData.str)) = true
  | [], _ => by simp [PyData.canLayAll0]
  | xs :: xss, h => by
    have h1 := lay_strs xs (h xs (List.mem_cons_self ..))
    have h2 := lay_tups xss fun y hy => h y (List.mem_cons_of_mem _ hy)
    simp only [List.map_cons, PyData.canLayAll0, PyData.canLay0, h1, h2]
    rfl
theorem dep_tups : ∀ xss : List (List Str), PyData.depthAll (xss.map fun xs => PyData.tuple (xs.map PyData.str)) ≤ 1
  | [] => by simp [PyData.depthAll]
  | xs :: xss => by
    have h := dep_tups xss
    simp only [List.map_cons, PyData.depthAll, PyData.depth, dep_strs xs]
    omega
theorem shaped_tups {xss : List (List Str)} (h : ∀ xs ∈ xss, ∀ x ∈ xs, PyData.strOk x = true) : SeqAt.shaped (.list (datWs (xss.map tupS))) = true := by
  rw [dat_tups]
  have h1 := lay_tups xss h
  have h2 := dep_tups xss
  unfold SeqAt.shaped
  rw [Bool.and_eq_true, decide_eq_true_eq]
  refine ⟨by simpa only [PyData.canLay0] using h1, ?_⟩
  rw [PyData.depth]
  omega
theorem eqv_strs : ∀ xs ys : List Str, PyData.eqvAll (xs.map PyData.str) (ys.map PyData.str) = decide (xs = ys)
  | [], [] => by simp [PyData.eqvAll]
  | [], _ :: _ => by simp [PyData.eqvAll]
  | _ :: _, [] => by simp [PyData.eqvAll]
  | x :: xs, y :: ys => by
    simp only [List.map_cons, PyData.eqvAll, PyData.eqv, eqv_strs xs ys]
    by_cases h : x = y
    · subst h
      simp
    · simp [h]
theorem any_tups (x : List Str) : ∀ xss : List (List Str), ((datWs (xss.map tupS)).any fun z => PyData.eqv z (datW (tupS x))) = decide (x ∈ xss)
  | [] => rfl
  | xs :: xss => by
    have ih := any_tups x xss
    show (PyData.eqv (datW (tupS xs)) (datW (tupS x)) || _) = _
    rw [ih]
    have e : PyData.eqv (datW (tupS xs)) (datW (tupS x)) = decide (xs = x) := by
      show PyData.eqv (.tuple (datWs (xs.map W.str))) (.tuple (datWs (x.map W.str))) = _
      rw [dat_strs, dat_strs]
      simp only [PyData.eqv, eqv_strs]
    rw [e]
    by_cases h : xs = x
    · subst h
      simp
    · have h2 : ¬ x = xs := fun e => h e.symm
      simp [h, h2]
theorem pureL_tups (xss : List (List Str)) : W.pureL (xss.map tupS) = true := pureL_of fun w hw => by
  obtain ⟨xs, _, rfl⟩ := List.mem_map.mp hw
  exact pureL_strs xs
theorem inP_tups {S : Sto} {Q : WK} {i : Nat} {xss : List (List Str)} {x : List Str} (neg : Bool) (h : S[i]? = some (.lst (xss.map tupS))) (h1 : ∀ xs ∈ xss, ∀ x ∈ xs, PyData.strOk x = true) (h2 : ∀ y ∈ x, PyData.strOk y = true) (q : Q (.bl (neg ^^ decide (x ∈ xss))) S) :
    vInP neg (tupS x) (.ref i) S Q := by
  refine ⟨_, h, pureL_strs x, pureL_tups xss, shaped_tupS h2, shaped_tups h1, ?_⟩
  rw [any_tups]
  exact q
/-! ### not, of any value -/
def dNotU (da : DE) : DE := fun env S Q => da env S fun w S1 => vTru w S1 fun b => Q (.bl (!b)) S1
theorem xe_notU {X : Cx} {a : Expr} {da : DE} {pos : Pos} (ha : XE X a da) : XE X (.UnaryOp .Not a pos) (dNotU da) := by
  obtain ⟨t, p, s⟩ := ha.ex
  refine ⟨_, pe_notT p, fun r H S s' env Q Q0 R E g k => ?_⟩
  refine s r H S s' env _ _ R E g fun r1 H1 S1 v w e1 R1 q1 d1 => ?_
  obtain ⟨c, h1, h2⟩ := tru_sim R1 q1 d1
  exact ⟨c, h1, k r1 H1 S1 _ _ e1 R1 (.bl _) h2⟩
theorem e_notU {da : DE} {env : Slots} {S : Sto} {Q : WK} : dNotU da env S Q = da env S fun w S1 => vTru w S1 fun b => Q (.bl (!b)) S1 := rfl
theorem e_isI {n : Bool} {i : Int} {S : Sto} {Q : WK} : vIs n (.int i) .non S Q = Q (.bl n) S := rfl
theorem e_isS {n : Bool} {i : Str} {S : Sto} {Q : WK} : vIs n (.str i) .non S Q = Q (.bl n) S := rfl
theorem e_isT {n : Bool} {i : List W} {S : Sto} {Q : WK} : vIs n (.tup i) .non S Q = Q (.bl n) S := rfl
theorem e_isR {n : Bool} {i : Nat} {S : Sto} {Q : WK} : vIs n (.ref i) .non S Q = Q (.bl n) S := rfl
theorem e_isN {n : Bool} {S : Sto} {Q : WK} : vIs n .non .non S Q = Q (.bl (!n)) S := rfl
theorem atI_4 {α : Type} {x y z u v : α} {xs : List α} : atI (x :: y :: z :: u :: v :: xs) 4 = some v := atI_nat (j := 4) rfl
theorem atI_5 {α : Type} {x y z u v t : α} {xs : List α} : atI (x :: y :: z :: u :: v :: t :: xs) 5 = some t := atI_nat (j := 5) rfl
end DL

/-! DLs: sorting equal bags gives one list; sorted tuples of texts. -/
namespace DL
open PySem PySem.Spec PyProof.Rows L2
abbrev tk (w : W) : List (Int ⊕ List Nat) := PySem.W.keyToks (datW w)
theorem leW_kle (a b : W) : leW a b = true ↔ (listOrd itemOrd).kle (tk a) (tk b) := by
  show (!lexLt itemOrd (tk b) (tk a)) = true ↔ lexLt itemOrd (tk b) (tk a) = false
  cases lexLt itemOrd (tk b) (tk a) <;> simp
theorem sort_perm {α : Type} {enc : α → W} {A B : List α} (inj : ∀ a b, tk (enc a) = tk (enc b) → a = b) (h : A.Perm B) : A.mergeSort (fun a b => leW (enc a) (enc b)) = B.mergeSort (fun a b => leW (enc a) (enc b)) := by
  have tr : ∀ a b c : α, leW (enc a) (enc b) = true → leW (enc b) (enc c) = true → leW (enc a) (enc c) = true := fun a b c h1 h2 => by
    rw [leW_kle] at *
    exact KeyOrd.kle_trans h1 h2
  have tot : ∀ a b : α, (leW (enc a) (enc b) || leW (enc b) (enc a)) = true := fun a b => by
    rw [Bool.or_eq_true, leW_kle, leW_kle]
    unfold KeyOrd.kle
    cases e : (listOrd itemOrd).blt (tk (enc b)) (tk (enc a)) with
    | false => exact .inl rfl
    | true => exact .inr (KeyOrd.klt_asymm e)
  have s1 := List.pairwise_mergeSort tr tot A
  have s2 := List.pairwise_mergeSort tr tot B
  refine List.Perm.eq_of_pairwise (le := fun a b => leW (enc a) (enc b) = true) (fun a b _ _ h1 h2 => ?_) s1 s2 (((List.mergeSort_perm A _).trans h).trans (List.mergeSort_perm B _).symm)
  rw [leW_kle] at h1 h2
  exact inj a b (KeyOrd.kle_antisymm h1 h2)
theorem tk_str (x : Str) : tk (.str x) = [.inr x.cps.toList] := by
  show PySem.W.keyToks (.str x) = _
  simp only [PySem.W.keyToks]
theorem str_inj (a b : Str) (h : tk (.str a) = tk (.str b)) : a = b := by
  rw [tk_str, tk_str] at h
  exact PySem.W.str_of_cps (Sum.inr.inj (List.cons.inj h).1)
theorem toks_inj : ∀ xs ys : List Str, PySem.W.keyToksAll (xs.map PyData.str) = PySem.W.keyToksAll (ys.map PyData.str) → xs = ys
  | [], [], _ => rfl
  | [], y :: ys, h => by
    simp [PySem.W.keyToksAll] at h
  | x :: xs, [], h => by
    simp [PySem.W.keyToksAll] at h
  | x :: xs, y :: ys, h => by
    simp only [List.map_cons, PySem.W.keyToksAll, PySem.W.keyToks] at h
    have h2 := (List.cons.inj h).2
    have h3 := (List.cons.inj h2).1
    have h4 := (List.cons.inj h2).2
    rw [PySem.W.str_of_cps (Sum.inr.inj h3), toks_inj xs ys h4]
theorem tupS_inj (a b : List Str) (h : tk (tupS a) = tk (tupS b)) : a = b := by
  have e : ∀ a : List Str, tk (tupS a) = PySem.W.keyToksAll (a.map PyData.str) := fun a => by
    show PySem.W.keyToks (.tuple (datWs (a.map W.str))) = _
    rw [dat_strs]
    simp only [PySem.W.keyToks]
  rw [e, e] at h
  exact toks_inj a b h
theorem sort_strs_perm {A B : List Str} (h : A.Perm B) : A.mergeSort strLe = B.mergeSort strLe := sort_perm (enc := W.str) str_inj h
def tupLe (a b : List Str) : Bool := leW (tupS a) (tupS b)
theorem sort_tups_perm {A B : List (List Str)} (h : A.Perm B) : A.mergeSort tupLe = B.mergeSort tupLe := sort_perm (enc := tupS) tupS_inj h
theorem alike_strs2 : ∀ (a b : List Str), PySem.W.alikeAll (datWs (a.map W.str)) (datWs (b.map W.str)) = true
  | [], _ => by simp [datWs, PySem.W.alikeAll]
  | _ :: _, [] => by simp [datWs, PySem.W.alikeAll]
  | x :: a, y :: b => by
    have ih := alike_strs2 a b
    simp only [List.map_cons, datWs, PySem.W.alikeAll, ih]
    rfl
theorem sorted_tups_ok {S : Sto} {Q : WK} {i : Nat} {xss : List (List Str)} (h : S[i]? = some (.lst (xss.map tupS))) (hne : ∀ xs ∈ xss, xs ≠ []) (q : Q (.ref S.length) (S ++ [.lst ((xss.mergeSort tupLe).map tupS)])) : vSorted [.ref i] S Q := by
  refine ⟨xss.map tupS, h, pureL_tups xss, ?_, ?_, ?_, ?_⟩
  · intro x hx y hy
    rw [List.map_map] at hx hy
    obtain ⟨a, _, rfl⟩ := List.mem_map.mp hx
    obtain ⟨b, _, rfl⟩ := List.mem_map.mp hy
    show PySem.W.alike (.tuple (datWs (a.map W.str))) (.tuple (datWs (b.map W.str))) = true
    simp only [PySem.W.alike, alike_strs2]
  · refine .inl fun x hx => ?_
    rw [List.map_map] at hx
    obtain ⟨a, ha, rfl⟩ := List.mem_map.mp hx
    cases a with
    | nil => exact absurd rfl (hne [] ha)
    | cons z r => exact ⟨_, _, rfl⟩
  · intro w hw
    obtain ⟨a, _, rfl⟩ := List.mem_map.mp hw
    show (PyData.tuple (datWs (a.map W.str))).depth ≤ 60
    rw [dat_strs]
    simp only [PyData.depth, dep_strs]
    decide
  · have e : (xss.map tupS).mergeSort leW = (xss.mergeSort tupLe).map tupS :=
      (List.map_mergeSort (r := tupLe) (s := leW) (f := tupS) (l := xss) fun _ _ _ _ => rfl).symm
    rw [e]
    exact q
end DL

/-! k09: each def's slots, what it denotes, its derivation (printed by gen.py). -/
namespace K09
open PySem PySem.Spec PyProof.Rows L2 DL
def topS (i : Nat) : Stmt := PySem.Challenge.pw_throughdoors_k09_rule_lists.main.body.getD i (.Pass ⟨0, 0, 0, 0⟩)
structure Txt (mg : Str → Option Value) : Prop where
  z_isinstance : mg "isinstance" = none
  z_str : mg "str" = none
  z_tuple : mg "tuple" = none
  z_list : mg "list" = none
  z_enumerate : mg "enumerate" = none
  z_max : mg "max" = none
  z_any : mg "any" = none
  z_sorted : mg "sorted" = none
  z_int : mg "int" = none
  z_range : mg "range" = none
  z_len : mg "len" = none
  z_bool : mg "bool" = none
  z_dict : mg "dict" = none
/-! ### marks_of -/
abbrev s_marks_of : Stmt := topS 1
abbrev N_marks_of : List Str := ["rows", "found", "row", "term"]
theorem sc_marks_of : FnScope N_marks_of ["rows"] (defScope s_marks_of) := ⟨rfl, rfl, rfl, by decide +kernel, rfl, by decide +kernel, by decide +kernel⟩
def d_marks_of : DS :=
(dSeq (dAsg dDict0 (gNm 1))
(dSeq (dFor (iSeq (dVar 0)) (gNm 2)
(dFor (iSeq (dOp vIxA (dVar 2) (dC (.int 1)))) (gNm 3)
(dIfS (dTru (dCB vIsi (aCons (dVar 3) (aCons (dC (.raw (.ty "str"))) aNil))))
(dAsg (dC (.bl true)) (gSb (dVar 1) (dVar 3) vSetA))
dNext)))
(dRet (dCB vTuple (aCons (dCB vListA (aCons (dVar 1) aNil)) aNil)))))
/-! ### rules_into -/
abbrev s_rules_into : Stmt := topS 3
abbrev N_rules_into : List Str := ["house", "table", "number", "rule"]
theorem sc_rules_into : FnScope N_rules_into ["house", "table"] (defScope s_rules_into) := ⟨rfl, rfl, rfl, by decide +kernel, rfl, by decide +kernel, by decide +kernel⟩
def d_rules_into : DS :=
(dRet (dCB vTuple (aCons (dComp (iEnumerate (aCons (dOp vIxA (dVar 0) (dC (.int 3))) aNil)) (gTp 2 (gC (gNm 2) (gC (gNm 3) gN0))) (dB (dOp vEq (dOp vIxA (dOp vIxA (dVar 3) (dC (.int 1))) (dC (.int 0))) (dVar 1))) (dVar 2) [2, 3]) aNil)))
/-! ### open_marks -/
abbrev s_open_marks : Stmt := topS 4
abbrev N_open_marks : List Str := ["rule", "body", "head", "closed", "mark"]
theorem sc_open_marks : FnScope N_open_marks ["rule"] (defScope s_open_marks) := ⟨rfl, rfl, rfl, by decide +kernel, rfl, by decide +kernel, by decide +kernel⟩
def d_open_marks (F_marks_of : DSpec) : DS :=
(dSeq (dAsg (dVar 0) (gTp 2 (gC (gNm 1) (gC (gNm 2) gN0))))
(dSeq (dAsg (dCall F_marks_of (aCons (dVar 1) aNil)) (gNm 3))
(dRet (dCB vTuple (aCons (dComp (iSeq (dCall F_marks_of (aCons (dTup (aCons (dVar 2) aNil)) aNil))) (gNm 4) (dB (dOp (vInA true) (dVar 4) (dVar 3))) (dVar 4) [4]) aNil)))))
/-! ### level_of -/
abbrev s_level_of : Stmt := topS 5
abbrev N_level_of : List Str := ["house", "table", "levels", "name", "_", "level", "number", "row"]
theorem sc_level_of : FnScope N_level_of ["house", "table"] (defScope s_level_of) := ⟨rfl, rfl, rfl, by decide +kernel, rfl, by decide +kernel, by decide +kernel⟩
def d_level_of (F_rules_into : DSpec) : DS :=
(dSeq (dAsg dDict0 (gNm 2))
(dSeq (dFor (iSeq (dOp vIxA (dVar 0) (dC (.int 0)))) (gTp 2 (gC (gNm 3) (gC (gNm 4) gN0)))
(dSeq (dAsg (dC (.int 0)) (gNm 5))
(dSeq (dFor (iSeq (dCall F_rules_into (aCons (dVar 0) (aCons (dVar 3) aNil)))) (gNm 6)
(dFor (iSeq (dOp vIxA (dOp vIxA (dOp vIxA (dVar 0) (dC (.int 3))) (dVar 6)) (dC (.int 0)))) (gNm 7)
(dAsg (dCB vMaxA (aCons (dVar 5) (aCons (dOp vAdd (dOp vIxA (dVar 2) (dOp vIxA (dVar 7) (dC (.int 0)))) (dC (.int 1))) aNil))) (gNm 5))))
(dAsg (dVar 5) (gSb (dVar 2) (dVar 3) vSetA)))))
(dRet (dOp vIxA (dVar 2) (dVar 1)))))
/-! ### linked_names -/
abbrev s_linked_names : Stmt := topS 7
abbrev N_linked_names : List Str := ["house", "links", "body", "head", "table", "_", "rows", "row"]
theorem sc_linked_names : FnScope N_linked_names ["house"] (defScope s_linked_names) := ⟨rfl, rfl, rfl, by decide +kernel, rfl, by decide +kernel, by decide +kernel⟩
def d_linked_names : DS :=
(dSeq (dAsg (dLst aNil) (gNm 1))
(dSeq (dFor (iSeq (dOp vIxA (dVar 0) (dC (.int 3)))) (gTp 2 (gC (gNm 2) (gC (gNm 3) gN0)))
(dDrop (dBM "list" vAppend (dVar 1) (aCons (dOp vAdd (dLst (aCons (dOp vIxA (dVar 3) (dC (.int 0))) aNil)) (dComp (iSeq (dVar 2)) (gNm 7) dYes (dOp vIxA (dVar 7) (dC (.int 0))) [7])) aNil))))
(dSeq (dFor (iSeq (dOp vIxA (dVar 0) (dC (.int 5)))) (gTp 3 (gC (gNm 4) (gC (gNm 5) (gC (gNm 6) gN0))))
(dDrop (dBM "list" vAppend (dVar 1) (aCons (dOp vAdd (dLst (aCons (dVar 4) aNil)) (dComp (iSeq (dVar 6)) (gNm 7) dYes (dOp vIxA (dVar 7) (dC (.int 0))) [7])) aNil))))
(dRet (dVar 1)))))
/-! ### house_parts -/
abbrev s_house_parts : Stmt := topS 8
abbrev N_house_parts : List Str := ["house", "parts", "names", "joined", "apart", "part", "table", "name"]
theorem sc_house_parts : FnScope N_house_parts ["house"] (defScope s_house_parts) := ⟨rfl, rfl, rfl, by decide +kernel, rfl, by decide +kernel, by decide +kernel⟩
def d_house_parts (F_linked_names : DSpec) : DS :=
(dSeq (dAsg (dComp (iSeq (dOp vIxA (dVar 0) (dC (.int 0)))) (gNm 6) dYes (dLst (aCons (dOp vIxA (dVar 6) (dC (.int 0))) aNil)) [6]) (gNm 1))
(dSeq (dFor (iSeq (dCall F_linked_names (aCons (dVar 0) aNil))) (gNm 2)
(dSeq (dAsg (dLst aNil) (gNm 3))
(dSeq (dAsg (dLst aNil) (gNm 4))
(dSeq (dFor (iSeq (dVar 1)) (gNm 5)
(dIfS (dTru (dCB (vAny fun bs => bs.any id) (aCons (dComp (iSeq (dVar 5)) (gNm 7) dYes (dOp (vInA false) (dVar 7) (dVar 2)) [7]) aNil)))
(dDrop (dBM "list" vExtend (dVar 3) (aCons (dVar 5) aNil)))
(dDrop (dBM "list" vAppend (dVar 4) (aCons (dVar 5) aNil)))))
(dAsg (dOp vAdd (dVar 4) (dLst (aCons (dVar 3) aNil))) (gNm 1))))))
(dRet (dCB vTuple (aCons (dCB vSorted (aCons (dComp (iSeq (dVar 1)) (gNm 5) dYes (dCB vTuple (aCons (dCB vSorted (aCons (dVar 5) aNil)) aNil)) [5]) aNil)) aNil)))))
/-! ### _law_pool -/
abbrev s_law_pool : Stmt := topS 10
abbrev N_law_pool : List Str := ["script", "great", "mixed", "cell", "number", "low"]
theorem sc_law_pool : FnScope N_law_pool ["script"] (defScope s_law_pool) := ⟨rfl, rfl, rfl, by decide +kernel, rfl, by decide +kernel, by decide +kernel⟩
def d_law_pool : DS :=
(dSeq (dAsg (dLst aNil) (gNm 1))
(dSeq (dAsg (dC (.int 9)) (gNm 2))
(dSeq (dFor (iSeq (dSl vSl (dVar 0) oNone (oSome (dC (.int 63))))) (gNm 3)
(dSeq (dAsg (dIf (dB (dOp vGe (dCB vIntOf (aCons (dVar 3) aNil)) (dC (.int 0)))) (dCB vIntOf (aCons (dVar 3) aNil)) (dOp vSub (dC (.int 1)) (dOp vMul (dC (.int 2)) (dCB vIntOf (aCons (dVar 3) aNil))))) (gNm 4))
(dSeq (dIfS (dB (dOp vGe (dVar 4) (dOp vPow (dC (.int 10)) (dC (.int 18)))))
(dDrop (dBM "list" vAppend (dVar 1) (aCons (dVar 4) aNil)))
dNext)
(dSeq (dAsg (dOp vMod (dCB vIntOf (aCons (dVar 4) aNil)) (dC (.int 1000003))) (gNm 5))
(dAsg (dOp vMod (dCB vIntOf (aCons (dOp vMul (dOp vAdd (dOp vAdd (dVar 2) (dVar 5)) (dC (.int 27077))) (dOp vAdd (dOp vAdd (dVar 2) (dOp vMul (dC (.int 3)) (dVar 5))) (dC (.int 5413)))) aNil)) (dC (.int 2147483629))) (gNm 2))))))
(dRet (dLst (aCons (dVar 1) (aCons (dOp vMod (dCB vIntOf (aCons (dOp vMul (dVar 2) (dOp vAdd (dVar 2) (dC (.int 27077)))) aNil)) (dC (.int 2147483629))) aNil)))))))
/-! ### _law_pick -/
abbrev s_law_pick : Stmt := topS 11
abbrev N_law_pick : List Str := ["pool", "many", "great", "number", "mixed"]
theorem sc_law_pick : FnScope N_law_pick ["pool", "many"] (defScope s_law_pick) := ⟨rfl, rfl, rfl, by decide +kernel, rfl, by decide +kernel, by decide +kernel⟩
def d_law_pick : DS :=
(dSeq (dAsg (dOp vIxA (dVar 0) (dC (.int 0))) (gNm 2))
(dSeq (dIfS (dTru (dVar 2))
(dSeq (dAsg (dCB vIntOf (aCons (dOp vIxA (dVar 2) (dC (.int 0))) aNil)) (gNm 3))
(dSeq (dAsg (dOp vDiv (dVar 3) (dVar 1)) (gSb (dVar 2) (dC (.int 0)) vSetA))
(dSeq (dIfS (dB (dOp vEq (dOp vIxA (dVar 2) (dC (.int 0))) (dC (.int 0))))
(dDrop (dBM "list" vPop1 (dVar 2) (aCons (dC (.int 0)) aNil)))
dNext)
(dRet (dOp vMod (dCB vIntOf (aCons (dVar 3) aNil)) (dVar 1))))))
dNext)
(dSeq (dAsg (dCB vIntOf (aCons (dOp vIxA (dVar 0) (dC (.int 1))) aNil)) (gNm 4))
(dSeq (dAsg (dOp vMod (dCB vIntOf (aCons (dOp vAdd (dOp vMul (dVar 4) (dC (.int 69621))) (dC (.int 5413))) aNil)) (dC (.int 2147483629))) (gSb (dVar 0) (dC (.int 1)) vSetA))
(dRet (dOp vMod (dCB vIntOf (aCons (dOp vAdd (dOp vDiv (dVar 4) (dC (.int 13))) (dOp vMod (dCB vIntOf (aCons (dOp vMul (dVar 4) (dC (.int 40503))) aNil)) (dC (.int 65521)))) aNil)) (dVar 1)))))))
/-! ### _law_names -/
abbrev s_law_names : Stmt := topS 12
abbrev N_law_names : List Str := ["pool", "many", "taken", "signs", "alike", "code", "names", "number", "rest", "name", "at", "attempt"]
theorem sc_law_names : FnScope N_law_names ["pool", "many", "taken"] (defScope s_law_names) := ⟨rfl, rfl, rfl, by decide +kernel, rfl, by decide +kernel, by decide +kernel⟩
def d_law_names (F_law_pick : DSpec) : DS :=
(dSeq (dAsg (dC (.str (Str.ofString "0123456789abcdefghijklmnopqrstuvwxyz"))) (gNm 3))
(dSeq (dAsg (dOp vEq (dCall F_law_pick (aCons (dVar 0) (aCons (dC (.int 2)) aNil))) (dC (.int 0))) (gNm 4))
(dSeq (dAsg (dCall F_law_pick (aCons (dVar 0) (aCons (dOp vMul (dOp vMul (dC (.int 8)) (dC (.int 26))) (dOp vPow (dC (.int 36)) (dC (.int 3)))) aNil))) (gNm 5))
(dSeq (dAsg (dLst aNil) (gNm 6))
(dSeq (dFor (iRng1 (aCons (dVar 1) aNil)) (gNm 7)
(dSeq (dAsg (dIf (dTru (dVar 4)) (dOp vAdd (dVar 5) (dVar 7)) (dCall F_law_pick (aCons (dVar 0) (aCons (dOp vMul (dOp vMul (dC (.int 8)) (dC (.int 26))) (dOp vPow (dC (.int 36)) (dC (.int 3)))) aNil)))) (gNm 8))
(dSeq (dAsg (dOp vIxA (dVar 3) (dOp vAdd (dC (.int 10)) (dOp vMod (dCB vIntOf (aCons (dVar 8) aNil)) (dC (.int 26))))) (gNm 9))
(dSeq (dFor (iRng1 (aCons (dOp vMod (dCB vIntOf (aCons (dVar 5) aNil)) (dC (.int 7))) aNil)) (gNm 10)
(dSeq (dAsg (dOp vDiv (dVar 8) (dIf (dB (dOp vEq (dVar 10) (dC (.int 0)))) (dC (.int 26)) (dC (.int 36)))) (gNm 8))
(dAsg (dOp vAdd (dVar 9) (dOp vIxA (dVar 3) (dOp vMod (dCB vIntOf (aCons (dVar 8) aNil)) (dC (.int 36))))) (gNm 9))))
(dSeq (dFor (iRng1 (aCons (dOp vAdd (dCB vLenA (aCons (dVar 2) aNil)) (dC (.int 1))) aNil)) (gNm 11)
(dIfS (dOrT (dB (dOp (vInA false) (dVar 9) (dVar 2))) (dAndT (dB (dOp vGt (dCB vLenA (aCons (dVar 9) aNil)) (dC (.int 2)))) (dTru (dBM0 "str" vIsalpha (dVar 9)))))
(dAsg (dOp vAdd (dOp vIxA (dC (.str (Str.ofString "abcdefgh"))) (dOp vMod (dCB vIntOf (aCons (dVar 11) aNil)) (dC (.int 8)))) (dCB vStrOf (aCons (dOp vAdd (dOp vAdd (dCB vLenA (aCons (dVar 2) aNil)) (dVar 11)) (dC (.int 2))) aNil))) (gNm 9))
dNext))
(dSeq (dAsg (dC (.bl true)) (gSb (dVar 2) (dVar 9) vSetA))
(dDrop (dBM "list" vAppend (dVar 6) (aCons (dVar 9) aNil)))))))))
(dRet (dVar 6)))))))
/-! ### _law_shuffled -/
abbrev s_law_shuffled : Stmt := topS 13
abbrev N_law_shuffled : List Str := ["pool", "things", "rest", "thing"]
theorem sc_law_shuffled : FnScope N_law_shuffled ["pool", "things"] (defScope s_law_shuffled) := ⟨rfl, rfl, rfl, by decide +kernel, rfl, by decide +kernel, by decide +kernel⟩
def d_law_shuffled (F_law_pick : DSpec) : DS :=
(dSeq (dAsg (dCB vListA (aCons (dVar 1) aNil)) (gNm 2))
(dRet (dComp (iSeq (dVar 1)) (gNm 3) dYes (dBM "list" vPop1 (dVar 2) (aCons (dCall F_law_pick (aCons (dVar 0) (aCons (dCB vLenA (aCons (dVar 2) aNil)) aNil))) aNil)) [3])))
/-! ### _law_marks -/
abbrev s_law_marks : Stmt := topS 14
abbrev N_law_marks : List Str := ["rows", "marks", "table", "terms", "term"]
theorem sc_law_marks : FnScope N_law_marks ["rows"] (defScope s_law_marks) := ⟨rfl, rfl, rfl, by decide +kernel, rfl, by decide +kernel, by decide +kernel⟩
def d_law_marks : DS :=
(dSeq (dAsg (dLst aNil) (gNm 1))
(dSeq (dFor (iSeq (dVar 0)) (gTp 2 (gC (gNm 2) (gC (gNm 3) gN0)))
(dFor (iSeq (dVar 3)) (gNm 4)
(dIfS (dAndT (dTru (dCB vIsi (aCons (dVar 4) (aCons (dC (.raw (.ty "str"))) aNil)))) (dB (dOp (vInA true) (dVar 4) (dVar 1))))
(dDrop (dBM "list" vAppend (dVar 1) (aCons (dVar 4) aNil)))
dNext)))
(dRet (dVar 1))))
/-! ### _law_open -/
abbrev s_law_open : Stmt := topS 15
abbrev N_law_open : List Str := ["rule", "inner", "mark"]
theorem sc_law_open : FnScope N_law_open ["rule"] (defScope s_law_open) := ⟨rfl, rfl, rfl, by decide +kernel, rfl, by decide +kernel, by decide +kernel⟩
def d_law_open (F_law_marks : DSpec) : DS :=
(dSeq (dAsg (dCall F_law_marks (aCons (dOp vIxA (dVar 0) (dC (.int 0))) aNil)) (gNm 1))
(dRet (dComp (iSeq (dCall F_law_marks (aCons (dTup (aCons (dOp vIxA (dVar 0) (dC (.int 1))) aNil)) aNil))) (gNm 2) (dB (dOp (vInA true) (dVar 2) (dVar 1))) (dVar 2) [2])))
/-! ### _law_same -/
abbrev s_law_same : Stmt := topS 16
abbrev N_law_same : List Str := ["due", "told", "at"]
theorem sc_law_same : FnScope N_law_same ["due", "told"] (defScope s_law_same) := ⟨rfl, rfl, rfl, by decide +kernel, rfl, by decide +kernel, by decide +kernel⟩
def d_law_same (F_law_same : DSpec) : DS :=
(dSeq (dIfS (dOrT (dTru (dCB vIsi (aCons (dVar 0) (aCons (dC (.raw (.ty "bool"))) aNil)))) (dTru (dCB vIsi (aCons (dVar 1) (aCons (dC (.raw (.ty "bool"))) aNil)))))
(dRet (dAndV (dCB vIsi (aCons (dVar 0) (aCons (dC (.raw (.ty "bool"))) aNil))) (dAndV (dCB vIsi (aCons (dVar 1) (aCons (dC (.raw (.ty "bool"))) aNil))) (dOp vEq (dVar 0) (dVar 1)))))
dNext)
(dSeq (dIfS (dOrT (dTru (dCB vIsi (aCons (dVar 0) (aCons (dC (.raw (.ty "tuple"))) aNil)))) (dTru (dCB vIsi (aCons (dVar 0) (aCons (dC (.raw (.ty "list"))) aNil)))))
(dSeq (dIfS (dOrT (dAndT (dTru (dCB vIsi (aCons (dVar 0) (aCons (dC (.raw (.ty "tuple"))) aNil)))) (dNotT (dTru (dCB vIsi (aCons (dVar 1) (aCons (dC (.raw (.ty "tuple"))) aNil)))))) (dAndT (dTru (dCB vIsi (aCons (dVar 0) (aCons (dC (.raw (.ty "list"))) aNil)))) (dNotT (dTru (dCB vIsi (aCons (dVar 1) (aCons (dC (.raw (.ty "list"))) aNil)))))))
(dRet (dC (.bl false)))
dNext)
(dSeq (dIfS (dB (dOp vNe (dCB vLenA (aCons (dVar 0) aNil)) (dCB vLenA (aCons (dVar 1) aNil))))
(dRet (dC (.bl false)))
dNext)
(dRet (dNotU (dComp (iRng1 (aCons (dCB vLenA (aCons (dVar 0) aNil)) aNil)) (gNm 2) (dNotT (dTru (dCall F_law_same (aCons (dOp vIxA (dVar 0) (dVar 2)) (aCons (dOp vIxA (dVar 1) (dVar 2)) aNil))))) (dVar 2) [2])))))
dNext)
(dSeq (dIfS (dOrT (dB (dOp (vIs false) (dVar 0) (dC .non))) (dB (dOp (vIs false) (dVar 1) (dC .non))))
(dRet (dAndV (dOp (vIs false) (dVar 0) (dC .non)) (dOp (vIs false) (dVar 1) (dC .non))))
dNext)
(dSeq (dIfS (dTru (dCB vIsi (aCons (dVar 0) (aCons (dC (.raw (.ty "str"))) aNil))))
(dRet (dAndV (dCB vIsi (aCons (dVar 1) (aCons (dC (.raw (.ty "str"))) aNil))) (dOp vEq (dVar 0) (dVar 1))))
dNext)
(dRet (dAndV (dCB vIsi (aCons (dVar 1) (aCons (dC (.raw (.ty "int"))) aNil))) (dOp vEq (dVar 0) (dVar 1))))))))
/-! ### _law_row -/
abbrev s_law_row : Stmt := topS 17
abbrev N_law_row : List Str := ["pool", "table", "marks", "column"]
theorem sc_law_row : FnScope N_law_row ["pool", "table", "marks"] (defScope s_law_row) := ⟨rfl, rfl, rfl, by decide +kernel, rfl, by decide +kernel, by decide +kernel⟩
def d_law_row (F_law_pick : DSpec) : DS :=
(dRet (dTup (aCons (dOp vIxA (dVar 1) (dC (.int 0))) (aCons (dCB vTuple (aCons (dComp (iRng1 (aCons (dOp vIxA (dVar 1) (dC (.int 1))) aNil)) (gNm 3) dYes (dOp vIxA (dVar 2) (dCall F_law_pick (aCons (dVar 0) (aCons (dCB vLenA (aCons (dVar 2) aNil)) aNil)))) [3]) aNil)) aNil))))
/-! ### _law_rules -/
abbrev s_law_rules : Stmt := topS 18
abbrev N_law_rules : List Str := ["pool", "tables", "most", "rules", "number", "top", "marks", "many", "body", "at"]
theorem sc_law_rules : FnScope N_law_rules ["pool", "tables", "most"] (defScope s_law_rules) := ⟨rfl, rfl, rfl, by decide +kernel, rfl, by decide +kernel, by decide +kernel⟩
def d_law_rules (F_law_pick : DSpec) (F_law_names : DSpec) (F_law_row : DSpec) : DS :=
(dSeq (dAsg (dLst aNil) (gNm 3))
(dSeq (dFor (iRng1 (aCons (dIf (dB (dOp vGt (dCB vLenA (aCons (dVar 1) aNil)) (dC (.int 1)))) (dCall F_law_pick (aCons (dVar 0) (aCons (dOp vAdd (dVar 2) (dC (.int 1))) aNil))) (dC (.int 0))) aNil)) (gNm 4)
(dSeq (dAsg (dOp vAdd (dC (.int 1)) (dCall F_law_pick (aCons (dVar 0) (aCons (dOp vSub (dCB vLenA (aCons (dVar 1) aNil)) (dC (.int 1))) aNil)))) (gNm 5))
(dSeq (dAsg (dCall F_law_names (aCons (dVar 0) (aCons (dC (.int 5)) (aCons dDict0 aNil)))) (gNm 6))
(dSeq (dAsg (dOp vIxA (dLst (aCons (dC (.int 1)) (aCons (dC (.int 1)) (aCons (dC (.int 2)) (aCons (dC (.int 3)) aNil))))) (dCall F_law_pick (aCons (dVar 0) (aCons (dC (.int 4)) aNil)))) (gNm 7))
(dSeq (dAsg (dComp (iRng1 (aCons (dVar 7) aNil)) (gNm 9) dYes (dCall F_law_row (aCons (dVar 0) (aCons (dOp vIxA (dVar 1) (dCall F_law_pick (aCons (dVar 0) (aCons (dVar 5) aNil)))) (aCons (dSl vSl (dVar 6) oNone (oSome (dOp vAdd (dC (.int 2)) (dCall F_law_pick (aCons (dVar 0) (aCons (dC (.int 2)) aNil)))))) aNil)))) [9]) (gNm 8))
(dDrop (dBM "list" vAppend (dVar 3) (aCons (dTup (aCons (dCB vTuple (aCons (dVar 8) aNil)) (aCons (dCall F_law_row (aCons (dVar 0) (aCons (dOp vIxA (dVar 1) (dVar 5)) (aCons (dSl vSl (dVar 6) oNone (oSome (dOp vAdd (dC (.int 2)) (dCall F_law_pick (aCons (dVar 0) (aCons (dC (.int 4)) aNil)))))) aNil)))) aNil))) aNil))))))))
(dRet (dCB vTuple (aCons (dVar 3) aNil)))))
/-! ### _law_ties -/
abbrev s_law_ties : Stmt := topS 19
abbrev N_law_ties : List Str := ["pool", "tables", "most", "ties", "number", "table", "width", "place", "alike", "column"]
theorem sc_law_ties : FnScope N_law_ties ["pool", "tables", "most"] (defScope s_law_ties) := ⟨rfl, rfl, rfl, by decide +kernel, rfl, by decide +kernel, by decide +kernel⟩
def d_law_ties (F_law_pick : DSpec) : DS :=
(dSeq (dAsg (dLst aNil) (gNm 3))
(dSeq (dFor (iRng1 (aCons (dCall F_law_pick (aCons (dVar 0) (aCons (dOp vAdd (dVar 2) (dC (.int 1))) aNil))) aNil)) (gNm 4)
(dSeq (dAsg (dOp vIxA (dVar 1) (dCall F_law_pick (aCons (dVar 0) (aCons (dCB vLenA (aCons (dVar 1) aNil)) aNil)))) (gTp 2 (gC (gNm 5) (gC (gNm 6) gN0))))
(dIfS (dB (dOp vGt (dVar 6) (dC (.int 1))))
(dSeq (dAsg (dCall F_law_pick (aCons (dVar 0) (aCons (dVar 6) aNil))) (gNm 7))
(dSeq (dAsg (dComp (iRng1 (aCons (dVar 6) aNil)) (gNm 9) (dAndT (dB (dOp vNe (dVar 9) (dVar 7))) (dB (dOp vGt (dCall F_law_pick (aCons (dVar 0) (aCons (dC (.int 3)) aNil))) (dC (.int 0))))) (dVar 9) [9]) (gNm 8))
(dDrop (dBM "list" vAppend (dVar 3) (aCons (dTup (aCons (dVar 5) (aCons (dIf (dTru (dVar 8)) (dCB vTuple (aCons (dVar 8) aNil)) (dTup (aCons (dOp vMod (dCB vIntOf (aCons (dOp vAdd (dVar 7) (dC (.int 1))) aNil)) (dVar 6)) aNil))) (aCons (dVar 7) aNil)))) aNil)))))
dNext)))
(dRet (dCB vTuple (aCons (dVar 3) aNil)))))
/-! ### _law_doors -/
abbrev s_law_doors : Stmt := topS 20
abbrev N_law_doors : List Str := ["pool", "tables", "kept", "names", "doors", "peeped", "name", "table", "width", "told", "kind", "triple", "column"]
theorem sc_law_doors : FnScope N_law_doors ["pool", "tables", "kept", "names"] (defScope s_law_doors) := ⟨rfl, rfl, rfl, by decide +kernel, rfl, by decide +kernel, by decide +kernel⟩
def d_law_doors (F_law_pick : DSpec) : DS :=
(dSeq (dAsg (dLst aNil) (gNm 4))
(dSeq (dAsg (dComp (iSeq (dVar 2)) (gNm 11) dYes (dOp vIxA (dVar 11) (dC (.int 0))) [11]) (gNm 5))
(dSeq (dFor (iSeq (dCB vSorted (aCons (dVar 3) aNil))) (gNm 6)
(dSeq (dAsg (dOp vIxA (dVar 1) (dCall F_law_pick (aCons (dVar 0) (aCons (dCB vLenA (aCons (dVar 1) aNil)) aNil)))) (gTp 2 (gC (gNm 7) (gC (gNm 8) gN0))))
(dSeq (dAsg (dCB vTuple (aCons (dComp (iRng1 (aCons (dVar 8) aNil)) (gNm 12) (dB (dOp vEq (dCall F_law_pick (aCons (dVar 0) (aCons (dC (.int 2)) aNil))) (dC (.int 0)))) (dVar 12) [12]) aNil)) (gNm 9))
(dSeq (dAsg (dIf (dAndT (dB (dOp (vInA true) (dVar 7) (dVar 5))) (dB (dOp vEq (dCall F_law_pick (aCons (dVar 0) (aCons (dC (.int 3)) aNil))) (dC (.int 0))))) (dC (.str (Str.ofString "one"))) (dC (.str (Str.ofString "all")))) (gNm 10))
(dSeq (dIfS (dB (dOp vEq (dVar 10) (dC (.str (Str.ofString "one")))))
(dDrop (dBM "list" vAppend (dVar 5) (aCons (dVar 7) aNil)))
dNext)
(dDrop (dBM "list" vAppend (dVar 4) (aCons (dTup (aCons (dVar 6) (aCons (dVar 7) (aCons (dVar 9) (aCons (dVar 10) aNil))))) aNil))))))))
(dRet (dCB vTuple (aCons (dVar 4) aNil))))))
/-! ### _law_house -/
abbrev s_law_house : Stmt := topS 21
abbrev N_law_house : List Str := ["pool", "most", "rules", "ties", "doors", "triples", "many", "names", "tables", "plain", "kept", "number", "marks", "body", "head", "known", "opened", "at"]
theorem sc_law_house : FnScope N_law_house ["pool", "most", "rules", "ties", "doors", "triples"] (defScope s_law_house) := ⟨rfl, rfl, rfl, by decide +kernel, rfl, by decide +kernel, by decide +kernel⟩
def d_law_house (F_law_pick : DSpec) (F_law_names : DSpec) (F_law_row : DSpec) (F_law_shuffled : DSpec) (F_law_marks : DSpec) (F_law_doors : DSpec) (F_law_ties : DSpec) (F_law_rules : DSpec) : DS :=
(dSeq (dAsg (dOp vAdd (dC (.int 1)) (dCall F_law_pick (aCons (dVar 0) (aCons (dVar 1) aNil)))) (gNm 6))
(dSeq (dAsg (dCall F_law_names (aCons (dVar 0) (aCons (dOp vAdd (dVar 6) (dVar 5)) (aCons dDict0 aNil)))) (gNm 7))
(dSeq (dAsg (dComp (iRng1 (aCons (dVar 6) aNil)) (gNm 17) dYes (dTup (aCons (dOp vIxA (dVar 7) (dVar 17)) (aCons (dOp vAdd (dC (.int 1)) (dCall F_law_pick (aCons (dVar 0) (aCons (dC (.int 4)) aNil)))) aNil))) [17]) (gNm 8))
(dSeq (dAsg (dCB vTuple (aCons (dVar 8) aNil)) (gNm 9))
(dSeq (dAsg (dLst aNil) (gNm 10))
(dSeq (dFor (iRng1 (aCons (dCall F_law_pick (aCons (dVar 0) (aCons (dOp vAdd (dVar 5) (dC (.int 1))) aNil))) aNil)) (gNm 11)
(dSeq (dAsg (dCall F_law_names (aCons (dVar 0) (aCons (dC (.int 4)) (aCons dDict0 aNil)))) (gNm 12))
(dSeq (dAsg (dCB vTuple (aCons (dComp (iRng1 (aCons (dOp vAdd (dC (.int 1)) (dCall F_law_pick (aCons (dVar 0) (aCons (dC (.int 3)) aNil)))) aNil)) (gNm 17) dYes (dCall F_law_row (aCons (dVar 0) (aCons (dOp vIxA (dVar 9) (dCall F_law_pick (aCons (dVar 0) (aCons (dVar 6) aNil)))) (aCons (dVar 12) aNil)))) [17]) aNil)) (gNm 13))
(dSeq (dAsg (dSl vSl (dCall F_law_shuffled (aCons (dVar 0) (aCons (dCall F_law_marks (aCons (dVar 13) aNil)) aNil))) oNone (oSome (dOp vAdd (dC (.int 1)) (dCall F_law_pick (aCons (dVar 0) (aCons (dC (.int 4)) aNil)))))) (gNm 14))
(dSeq (dDrop (dBM "list" vAppend (dVar 10) (aCons (dTup (aCons (dOp vIxA (dVar 7) (dOp vAdd (dVar 6) (dVar 11))) (aCons (dCB vTuple (aCons (dVar 14) aNil)) (aCons (dVar 13) aNil)))) aNil)))
(dDrop (dBM "list" vAppend (dVar 8) (aCons (dTup (aCons (dOp vIxA (dVar 7) (dOp vAdd (dVar 6) (dVar 11))) (aCons (dCB vLenA (aCons (dVar 14) aNil)) aNil))) aNil))))))))
(dSeq (dAsg (dIf (dTru (dCall F_law_pick (aCons (dVar 0) (aCons (dC (.int 2)) aNil)))) (dCB vSorted (aCons (dComp (iRng1 (aCons (dCall F_law_pick (aCons (dVar 0) (aCons (dC (.int 13)) aNil))) aNil)) (gNm 17) dYes (dOp vAdd (dOp vMul (dCall F_law_pick (aCons (dVar 0) (aCons (dC (.int 9)) aNil))) (dC (.int 13))) (dVar 17)) [17]) aNil)) (dLst (aCons (dC (.int 0)) (aCons (dOp vPow (dC (.int 10)) (dC (.int 12))) aNil)))) (gNm 15))
(dSeq (dAsg (dCall F_law_doors (aCons (dVar 0) (aCons (dVar 8) (aCons (dVar 10) (aCons (dCall F_law_names (aCons (dVar 0) (aCons (dCall F_law_pick (aCons (dVar 0) (aCons (dOp vAdd (dVar 4) (dC (.int 1))) aNil))) (aCons dDict0 aNil)))) aNil))))) (gNm 16))
(dRet (dTup (aCons (dCB vTuple (aCons (dVar 8) aNil)) (aCons (dCB vTuple (aCons (dVar 15) aNil)) (aCons (dVar 16) (aCons (dCall F_law_rules (aCons (dVar 0) (aCons (dVar 9) (aCons (dVar 2) aNil)))) (aCons (dCall F_law_ties (aCons (dVar 0) (aCons (dVar 9) (aCons (dVar 3) aNil)))) (aCons (dCB vTuple (aCons (dCB vSorted (aCons (dVar 10) aNil)) aNil)) aNil))))))))))))))))
/-! ### _law_levels -/
abbrev s_law_levels : Stmt := topS 22
abbrev N_law_levels : List Str := ["house", "levels", "table", "width", "body", "head", "name", "terms"]
theorem sc_law_levels : FnScope N_law_levels ["house"] (defScope s_law_levels) := ⟨rfl, rfl, rfl, by decide +kernel, rfl, by decide +kernel, by decide +kernel⟩
def d_law_levels : DS :=
(dSeq (dAsg (dCB vDict (aCons (dComp (iSeq (dOp vIxA (dVar 0) (dC (.int 0)))) (gTp 2 (gC (gNm 2) (gC (gNm 3) gN0))) dYes (dTup (aCons (dVar 2) (aCons (dC (.int 0)) aNil))) [2, 3]) aNil)) (gNm 1))
(dSeq (dFor (iSeq (dOp vIxA (dVar 0) (dC (.int 0)))) (gTp 2 (gC (gNm 2) (gC (gNm 3) gN0)))
(dFor (iSeq (dOp vIxA (dVar 0) (dC (.int 3)))) (gTp 2 (gC (gNm 4) (gC (gNm 5) gN0)))
(dIfS (dB (dOp vEq (dOp vIxA (dVar 5) (dC (.int 0))) (dVar 2)))
(dAsg (dCB vMaxA (aCons (dOp vAdd (dLst (aCons (dOp vIxA (dVar 1) (dVar 2)) aNil)) (dComp (iSeq (dVar 4)) (gTp 2 (gC (gNm 6) (gC (gNm 7) gN0))) dYes (dOp vAdd (dOp vIxA (dVar 1) (dVar 6)) (dC (.int 1))) [6, 7])) aNil)) (gSb (dVar 1) (dVar 2) vSetA))
dNext)))
(dRet (dVar 1))))
/-! ### _law_parts -/
abbrev s_law_parts : Stmt := topS 23
abbrev N_law_parts : List Str := ["house", "parts", "groups", "group", "name", "old", "table", "width", "found", "part", "at", "body", "head", "terms", "triple", "wide"]
theorem sc_law_parts : FnScope N_law_parts ["house"] (defScope s_law_parts) := ⟨rfl, rfl, rfl, by decide +kernel, rfl, by decide +kernel, by decide +kernel⟩
def d_law_parts : DS :=
(dSeq (dAsg (dCB vDict (aCons (dComp (iRng1 (aCons (dCB vLenA (aCons (dOp vIxA (dVar 0) (dC (.int 0))) aNil)) aNil)) (gNm 10) dYes (dTup (aCons (dOp vIxA (dOp vIxA (dOp vIxA (dVar 0) (dC (.int 0))) (dVar 10)) (dC (.int 0))) (aCons (dVar 10) aNil))) [10]) aNil)) (gNm 1))
(dSeq (dAsg (dComp (iSeq (dOp vIxA (dVar 0) (dC (.int 3)))) (gTp 2 (gC (gNm 11) (gC (gNm 12) gN0))) dYes (dOp vAdd (dComp (iSeq (dVar 11)) (gTp 2 (gC (gNm 4) (gC (gNm 13) gN0))) dYes (dVar 4) [4, 13]) (dLst (aCons (dOp vIxA (dVar 12) (dC (.int 0))) aNil))) [11, 12]) (gNm 2))
(dSeq (dAsg (dOp vAdd (dVar 2) (dComp (iSeq (dOp vIxA (dVar 0) (dC (.int 5)))) (gNm 14) dYes (dOp vAdd (dLst (aCons (dOp vIxA (dVar 14) (dC (.int 0))) aNil)) (dComp (iSeq (dOp vIxA (dVar 14) (dC (.int 2)))) (gTp 2 (gC (gNm 4) (gC (gNm 13) gN0))) dYes (dVar 4) [4, 13])) [14])) (gNm 2))
(dSeq (dFor (iSeq (dVar 2)) (gNm 3)
(dFor (iSeq (dVar 3)) (gNm 4)
(dSeq (dAsg (dOp vIxA (dVar 1) (dVar 4)) (gNm 5))
(dFor (iSeq (dOp vIxA (dVar 0) (dC (.int 0)))) (gTp 2 (gC (gNm 6) (gC (gNm 7) gN0)))
(dIfS (dB (dOp vEq (dOp vIxA (dVar 1) (dVar 6)) (dVar 5)))
(dAsg (dOp vIxA (dVar 1) (dOp vIxA (dVar 3) (dC (.int 0)))) (gSb (dVar 1) (dVar 6) vSetA))
dNext)))))
(dSeq (dAsg (dLst aNil) (gNm 8))
(dSeq (dFor (iSeq (dOp vIxA (dVar 0) (dC (.int 0)))) (gTp 2 (gC (gNm 6) (gC (gNm 7) gN0)))
(dSeq (dAsg (dCB vTuple (aCons (dCB vSorted (aCons (dComp (iSeq (dOp vIxA (dVar 0) (dC (.int 0)))) (gTp 2 (gC (gNm 4) (gC (gNm 15) gN0))) (dB (dOp vEq (dOp vIxA (dVar 1) (dVar 4)) (dOp vIxA (dVar 1) (dVar 6)))) (dVar 4) [4, 15]) aNil)) aNil)) (gNm 9))
(dIfS (dB (dOp (vInP true) (dVar 9) (dVar 8)))
(dDrop (dBM "list" vAppend (dVar 8) (aCons (dVar 9) aNil)))
dNext)))
(dRet (dCB vTuple (aCons (dCB vSorted (aCons (dVar 8) aNil)) aNil)))))))))
/-! ### _law_asks -/
abbrev s_law_asks : Stmt := topS 24
abbrev N_law_asks : List Str := ["pool", "house", "levels", "lap", "table", "width", "due", "rule", "at"]
theorem sc_law_asks : FnScope N_law_asks ["pool", "house"] (defScope s_law_asks) := ⟨rfl, rfl, rfl, by decide +kernel, rfl, by decide +kernel, by decide +kernel⟩
def d_law_asks (F_law_levels : DSpec) (F_law_shuffled : DSpec) (F_law_same : DSpec) (F_rules_into : DSpec) (F_level_of : DSpec) (F_house_parts : DSpec) (F_law_parts : DSpec) (F_open_marks : DSpec) (F_law_open : DSpec) : DS :=
(dSeq (dAsg (dCall F_law_levels (aCons (dVar 1) aNil)) (gNm 2))
(dSeq (dFor (iRng1 (aCons (dC (.int 2)) aNil)) (gNm 3)
(dSeq (dFor (iSeq (dIf (dB (dOp vEq (dVar 3) (dC (.int 0)))) (dOp vIxA (dVar 1) (dC (.int 0))) (dCB vTuple (aCons (dCall F_law_shuffled (aCons (dVar 0) (aCons (dOp vIxA (dVar 1) (dC (.int 0))) aNil))) aNil)))) (gTp 2 (gC (gNm 4) (gC (gNm 5) gN0)))
(dSeq (dAsg (dCB vTuple (aCons (dComp (iRng1 (aCons (dCB vLenA (aCons (dOp vIxA (dVar 1) (dC (.int 3))) aNil)) aNil)) (gNm 8) (dB (dOp vEq (dOp vIxA (dOp vIxA (dOp vIxA (dOp vIxA (dVar 1) (dC (.int 3))) (dVar 8)) (dC (.int 1))) (dC (.int 0))) (dVar 4))) (dVar 8) [8]) aNil)) (gNm 6))
(dIfS (dOrT (dNotT (dTru (dCall F_law_same (aCons (dVar 6) (aCons (dCall F_rules_into (aCons (dVar 1) (aCons (dVar 4) aNil))) aNil))))) (dNotT (dTru (dCall F_law_same (aCons (dOp vIxA (dVar 2) (dVar 4)) (aCons (dCall F_level_of (aCons (dVar 1) (aCons (dVar 4) aNil))) aNil))))))
(dRet (dC (.bl false)))
dNext)))
(dIfS (dNotT (dTru (dCall F_law_same (aCons (dCall F_law_parts (aCons (dVar 1) aNil)) (aCons (dCall F_house_parts (aCons (dVar 1) aNil)) aNil)))))
(dRet (dC (.bl false)))
dNext)))
(dSeq (dFor (iSeq (dOp vIxA (dVar 1) (dC (.int 3)))) (gNm 7)
(dIfS (dNotT (dTru (dCall F_law_same (aCons (dCB vTuple (aCons (dCall F_law_open (aCons (dVar 7) aNil)) aNil)) (aCons (dCall F_open_marks (aCons (dVar 7) aNil)) aNil)))))
(dRet (dC (.bl false)))
dNext))
(dRet (dC (.bl true))))))
/-! ### _law_ladder -/
abbrev s_law_ladder : Stmt := topS 25
abbrev N_law_ladder : List Str := ["pool", "many", "names", "tables", "rules", "at", "marks", "body", "extra", "lap", "low", "name"]
theorem sc_law_ladder : FnScope N_law_ladder ["pool"] (defScope s_law_ladder) := ⟨rfl, rfl, rfl, by decide +kernel, rfl, by decide +kernel, by decide +kernel⟩
def d_law_ladder (F_law_pick : DSpec) (F_law_names : DSpec) (F_law_row : DSpec) (F_law_shuffled : DSpec) : DS :=
(dSeq (dAsg (dOp vAdd (dC (.int 2)) (dCall F_law_pick (aCons (dVar 0) (aCons (dC (.int 7)) aNil)))) (gNm 1))
(dSeq (dAsg (dCall F_law_names (aCons (dVar 0) (aCons (dVar 1) (aCons dDict0 aNil)))) (gNm 2))
(dSeq (dAsg (dCB vTuple (aCons (dComp (iSeq (dVar 2)) (gNm 11) dYes (dTup (aCons (dVar 11) (aCons (dOp vAdd (dC (.int 1)) (dCall F_law_pick (aCons (dVar 0) (aCons (dC (.int 4)) aNil)))) aNil))) [11]) aNil)) (gNm 3))
(dSeq (dAsg (dLst aNil) (gNm 4))
(dSeq (dFor (iRng1 (aCons (dOp vSub (dVar 1) (dC (.int 1))) aNil)) (gNm 5)
(dSeq (dAsg (dCall F_law_names (aCons (dVar 0) (aCons (dC (.int 4)) (aCons dDict0 aNil)))) (gNm 6))
(dSeq (dAsg (dTup (aCons (dCall F_law_row (aCons (dVar 0) (aCons (dOp vIxA (dVar 3) (dVar 5)) (aCons (dVar 6) aNil)))) aNil)) (gNm 7))
(dSeq (dIfS (dAndT (dB (dOp vEq (dCall F_law_pick (aCons (dVar 0) (aCons (dC (.int 3)) aNil))) (dC (.int 0)))) (dB (dOp vLt (dCB vLenA (aCons (dVar 4) aNil)) (dC (.int 20)))))
(dAsg (dCall F_law_shuffled (aCons (dVar 0) (aCons (dOp vAdd (dLst (aCons (dOp vIxA (dVar 7) (dC (.int 0))) aNil)) (dComp (iRng1 (aCons (dC (.int 2)) aNil)) (gNm 9) dYes (dCall F_law_row (aCons (dVar 0) (aCons (dOp vIxA (dVar 3) (dCall F_law_pick (aCons (dVar 0) (aCons (dOp vAdd (dVar 5) (dC (.int 1))) aNil)))) (aCons (dVar 6) aNil)))) [9])) aNil))) (gNm 7))
dNext)
(dDrop (dBM "list" vAppend (dVar 4) (aCons (dTup (aCons (dCB vTuple (aCons (dVar 7) aNil)) (aCons (dCall F_law_row (aCons (dVar 0) (aCons (dOp vIxA (dVar 3) (dOp vAdd (dVar 5) (dC (.int 1)))) (aCons (dVar 6) aNil)))) aNil))) aNil)))))))
(dSeq (dAsg (dCall F_law_pick (aCons (dVar 0) (aCons (dOp vSub (dC (.int 9)) (dCB vLenA (aCons (dVar 4) aNil))) aNil))) (gNm 8))
(dSeq (dFor (iRng1 (aCons (dVar 8) aNil)) (gNm 9)
(dSeq (dAsg (dCall F_law_pick (aCons (dVar 0) (aCons (dOp vSub (dVar 1) (dC (.int 1))) aNil))) (gNm 10))
(dSeq (dAsg (dCall F_law_names (aCons (dVar 0) (aCons (dC (.int 4)) (aCons dDict0 aNil)))) (gNm 6))
(dDrop (dBM "list" vAppend (dVar 4) (aCons (dTup (aCons (dTup (aCons (dCall F_law_row (aCons (dVar 0) (aCons (dOp vIxA (dVar 3) (dVar 10)) (aCons (dVar 6) aNil)))) aNil)) (aCons (dCall F_law_row (aCons (dVar 0) (aCons (dOp vIxA (dVar 3) (dOp vAdd (dOp vAdd (dVar 10) (dC (.int 1))) (dCall F_law_pick (aCons (dVar 0) (aCons (dOp vSub (dOp vSub (dVar 1) (dVar 10)) (dC (.int 1))) aNil))))) (aCons (dVar 6) aNil)))) aNil))) aNil))))))
(dRet (dTup (aCons (dVar 3) (aCons (dVar 4) (aCons (dVar 2) aNil))))))))))))
/-! ### law -/
abbrev s_law : Stmt := topS 26
abbrev N_law : List Str := ["script", "pool", "tables", "rules", "names", "whole", "at", "lost", "links", "apart", "lap", "bare", "rule"]
theorem sc_law : FnScope N_law ["script"] (defScope s_law) := ⟨rfl, rfl, rfl, by decide +kernel, rfl, by decide +kernel, by decide +kernel⟩
def d_law (F_law_pool : DSpec) (F_law_ladder : DSpec) (F_law_shuffled : DSpec) (F_law_same : DSpec) (F_level_of : DSpec) (F_house_parts : DSpec) (F_law_asks : DSpec) (F_law_pick : DSpec) (F_law_house : DSpec) : DS :=
(dSeq (dAsg (dCall F_law_pool (aCons (dVar 0) aNil)) (gNm 1))
(dSeq (dAsg (dCall F_law_ladder (aCons (dVar 1) aNil)) (gTp 3 (gC (gNm 2) (gC (gNm 3) (gC (gNm 4) gN0)))))
(dSeq (dAsg (dTup (aCons (dVar 2) (aCons (dTup aNil) (aCons (dTup aNil) (aCons (dCB vTuple (aCons (dCall F_law_shuffled (aCons (dVar 1) (aCons (dVar 3) aNil))) aNil)) (aCons (dTup aNil) (aCons (dTup aNil) aNil))))))) (gNm 5))
(dSeq (dFor (iRng1 (aCons (dCB vLenA (aCons (dVar 4) aNil)) aNil)) (gNm 6)
(dIfS (dNotT (dTru (dCall F_law_same (aCons (dVar 6) (aCons (dCall F_level_of (aCons (dVar 5) (aCons (dOp vIxA (dVar 4) (dVar 6)) aNil))) aNil)))))
(dRet (dC (.bl false)))
dNext))
(dSeq (dIfS (dOrT (dNotT (dTru (dCall F_law_same (aCons (dTup (aCons (dCB vTuple (aCons (dCB vSorted (aCons (dVar 4) aNil)) aNil)) aNil)) (aCons (dCall F_house_parts (aCons (dVar 5) aNil)) aNil))))) (dNotT (dTru (dCall F_law_asks (aCons (dVar 1) (aCons (dVar 5) aNil))))))
(dRet (dC (.bl false)))
dNext)
(dSeq (dAsg (dCall F_law_pick (aCons (dVar 1) (aCons (dOp vSub (dCB vLenA (aCons (dVar 4) aNil)) (dC (.int 1))) aNil))) (gNm 7))
(dSeq (dAsg (dComp (iSeq (dSl vSl (dVar 3) oNone (oSome (dOp vSub (dCB vLenA (aCons (dVar 4) aNil)) (dC (.int 1)))))) (gNm 12) (dAndT (dB (dOp vEq (dCB vLenA (aCons (dOp vIxA (dVar 12) (dC (.int 0))) aNil)) (dC (.int 1)))) (dB (dOp vNe (dOp vIxA (dOp vIxA (dVar 12) (dC (.int 1))) (dC (.int 0))) (dOp vIxA (dVar 4) (dOp vAdd (dVar 7) (dC (.int 1))))))) (dVar 12) [12]) (gNm 8))
(dSeq (dAsg (dTup (aCons (dVar 2) (aCons (dTup (aCons (dC (.int 3)) (aCons (dC (.int 7)) aNil))) (aCons (dTup aNil) (aCons (dCB vTuple (aCons (dCall F_law_shuffled (aCons (dVar 1) (aCons (dVar 8) aNil))) aNil)) (aCons (dTup aNil) (aCons (dTup aNil) aNil))))))) (gNm 9))
(dSeq (dIfS (dOrT (dNotT (dTru (dCall F_law_asks (aCons (dVar 1) (aCons (dVar 9) aNil))))) (dOrT (dNotT (dTru (dCall F_law_same (aCons (dC (.int 0)) (aCons (dCall F_level_of (aCons (dVar 9) (aCons (dOp vIxA (dVar 4) (dOp vAdd (dVar 7) (dC (.int 1)))) aNil))) aNil))))) (dB (dOp vLt (dCB vLenA (aCons (dCall F_house_parts (aCons (dVar 9) aNil)) aNil)) (dC (.int 2))))))
(dRet (dC (.bl false)))
dNext)
(dSeq (dFor (iRng1 (aCons (dC (.int 2)) aNil)) (gNm 10)
(dIfS (dNotT (dTru (dCall F_law_asks (aCons (dVar 1) (aCons (dCall F_law_house (aCons (dVar 1) (aCons (dC (.int 5)) (aCons (dC (.int 8)) (aCons (dC (.int 2)) (aCons (dC (.int 4)) (aCons (dC (.int 3)) aNil))))))) aNil)))))
(dRet (dC (.bl false)))
dNext))
(dSeq (dAsg (dCall F_law_asks (aCons (dVar 1) (aCons (dTup (aCons (dSl vSl (dVar 2) oNone (oSome (dC (.int 1)))) (aCons (dTup aNil) (aCons (dTup aNil) (aCons (dTup aNil) (aCons (dTup aNil) (aCons (dTup aNil) aNil))))))) aNil))) (gNm 11))
(dRet (dAndV (dVar 11) (dCall F_law_same (aCons (dTup (aCons (dTup (aCons (dOp vIxA (dVar 4) (dC (.int 0))) aNil)) aNil)) (aCons (dCall F_house_parts (aCons (dTup (aCons (dSl vSl (dVar 2) oNone (oSome (dC (.int 1)))) (aCons (dTup aNil) (aCons (dTup aNil) (aCons (dTup aNil) (aCons (dTup aNil) (aCons (dTup aNil) aNil))))))) aNil)) aNil))))))))))))))))
section
variable {P : Program} {w : World} {K : Fg} {mg : Str → Option Value} {base : Heap}
theorem der_marks_of (T : Txt mg) (f : Addr) (cdv : Value) (A : Around) (outer : List PySem.Env) (s : Shared) (H : Hp) (E : XK) (hr : Room 0 (A.deeper (envOfC "marks_of" (defScope s_marks_of) s.heap.objs.size f cdv))) :
  XSs (cxOf CX0 P w K mg base N_marks_of "marks_of" (defScope s_marks_of) f cdv A outer s H E).nox (defBody s_marks_of) (d_marks_of) :=
(xss_cons (xs_set 1 sc_marks_of.nd xe_dict0)
(xss_cons (xs_for PassesOwn.never rfl (xi_seq (xv 0)) (xg_name 2 sc_marks_of.nd)
(xss_one (xs_for PassesOwn.never rfl (xi_seq (x_ixA hr.units (xv 2) xe_int)) (xg_name 3 sc_marks_of.nd)
(xss_one (xs_if (xt_val (c_isi (by rfl) T.z_isinstance (xa_cons (xv 3) (xa_cons (xe_ty (n := "str") (by rfl) T.z_str (by decide +kernel)) xa_nil))))
(xss_one (xs_asg xe_bl (g_subA hr.units (xv 1) (xv 3))))
xss_nil)))))
(xss_one (xs_ret (c_tuple (by rfl) T.z_tuple (xa_cons (c_listA rfl (by rfl) T.z_list (xa_cons (xv 1) xa_nil)) xa_nil))))))
theorem der_rules_into (T : Txt mg) (f : Addr) (cdv : Value) (A : Around) (outer : List PySem.Env) (s : Shared) (H : Hp) (E : XK) (hr : Room 0 (A.deeper (envOfC "rules_into" (defScope s_rules_into) s.heap.objs.size f cdv))) :
  XSs (cxOf CX0 P w K mg base N_rules_into "rules_into" (defScope s_rules_into) f cdv A outer s H E).nox (defBody s_rules_into) (d_rules_into) :=
(xss_one (xs_ret (c_tuple (by rfl) T.z_tuple (xa_cons (xe_compT [("number", 2), ("rule", 3)] rfl sc_rules_into.nd (xi_enumerate (by rfl) T.z_enumerate (xa_cons (x_ixA hr.units (xv 0) xe_int) xa_nil)) (blkOk_by (by kernel_rfl)) (fun _ _ _ _ _ => (xcgs_cons (xcg_name 2 sc_rules_into.nd) (xcgs_cons (xcg_name 3 sc_rules_into.nd) xcgs_nil))) (fun _ _ _ _ _ => (xts_one (t_eq hr.units (x_ixA hr.units (x_ixA hr.units (xv 3) xe_int) xe_int) (xv 1)))) (fun _ _ _ _ _ => (xv 2))) xa_nil))))
theorem der_open_marks (T : Txt mg) {F_marks_of : DSpec} (D_marks_of : TDef P w K mg base 1 "marks_of" s_marks_of ["rows"] F_marks_of) (f : Addr) (cdv : Value) (A : Around) (outer : List PySem.Env) (s : Shared) (H : Hp) (E : XK) (hr : Room 1 (A.deeper (envOfC "open_marks" (defScope s_open_marks) s.heap.objs.size f cdv))) :
  XSs (cxOf CX0 P w K mg base N_open_marks "open_marks" (defScope s_open_marks) f cdv A outer s H E).nox (defBody s_open_marks) (d_open_marks F_marks_of) :=
(xss_cons (xs_asg (xv 0) (xg_tup rfl (xgs_cons (xg_name 1 sc_open_marks.nd) (xgs_cons (xg_name 2 sc_open_marks.nd) xgs_nil))))
(xss_cons (xs_set 3 sc_open_marks.nd (c_def D_marks_of hr (xa_cons (xv 1) xa_nil)))
(xss_one (xs_ret (c_tuple (by rfl) T.z_tuple (xa_cons (xe_comp [("mark", 4)] rfl sc_open_marks.nd (xi_seq (c_def D_marks_of hr (xa_cons (xe_tup (xa_cons (xv 2) xa_nil)) xa_nil))) (blkOk_by (by kernel_rfl)) (fun _ _ _ _ _ => (xcg_name 4 sc_open_marks.nd)) (fun _ _ _ _ _ => (xts_one (t_notinA hr.units (xv 4) (xv 3)))) (fun _ _ _ _ _ => (xv 4))) xa_nil))))))
theorem der_level_of (T : Txt mg) {F_rules_into : DSpec} (D_rules_into : TDef P w K mg base 1 "rules_into" s_rules_into ["house", "table"] F_rules_into) (f : Addr) (cdv : Value) (A : Around) (outer : List PySem.Env) (s : Shared) (H : Hp) (E : XK) (hr : Room 1 (A.deeper (envOfC "level_of" (defScope s_level_of) s.heap.objs.size f cdv))) :
  XSs (cxOf CX0 P w K mg base N_level_of "level_of" (defScope s_level_of) f cdv A outer s H E).nox (defBody s_level_of) (d_level_of F_rules_into) :=
(xss_cons (xs_set 2 sc_level_of.nd xe_dict0)
(xss_cons (xs_for PassesOwn.never rfl (xi_seq (x_ixA hr.units (xv 0) xe_int)) (xg_tup rfl (xgs_cons (xg_name 3 sc_level_of.nd) (xgs_cons (xg_name 4 sc_level_of.nd) xgs_nil)))
(xss_cons (xs_set 5 sc_level_of.nd xe_int)
(xss_cons (xs_for PassesOwn.never rfl (xi_seq (c_def D_rules_into hr (xa_cons (xv 0) (xa_cons (xv 3) xa_nil)))) (xg_name 6 sc_level_of.nd)
(xss_one (xs_for PassesOwn.never rfl (xi_seq (x_ixA hr.units (x_ixA hr.units (x_ixA hr.units (xv 0) xe_int) (xv 6)) xe_int)) (xg_name 7 sc_level_of.nd)
(xss_one (xs_set 5 sc_level_of.nd (c_max rfl (by rfl) T.z_max (xa_cons (xv 5) (xa_cons (x_add (x_ixA hr.units (xv 2) (x_ixA hr.units (xv 7) xe_int)) xe_int) xa_nil))))))))
(xss_one (xs_asg (xv 5) (g_subA hr.units (xv 2) (xv 3)))))))
(xss_one (xs_ret (x_ixA hr.units (xv 2) (xv 1))))))
theorem der_linked_names (T : Txt mg) (f : Addr) (cdv : Value) (A : Around) (outer : List PySem.Env) (s : Shared) (H : Hp) (E : XK) (hr : Room 0 (A.deeper (envOfC "linked_names" (defScope s_linked_names) s.heap.objs.size f cdv))) :
  XSs (cxOf CX0 P w K mg base N_linked_names "linked_names" (defScope s_linked_names) f cdv A outer s H E).nox (defBody s_linked_names) (d_linked_names) :=
(xss_cons (xs_set 1 sc_linked_names.nd (xe_lst xa_nil))
(xss_cons (xs_for PassesOwn.never rfl (xi_seq (x_ixA hr.units (xv 0) xe_int)) (xg_tup rfl (xgs_cons (xg_name 2 sc_linked_names.nd) (xgs_cons (xg_name 3 sc_linked_names.nd) xgs_nil)))
(xss_one (xs_expr (m_append (xv 1) (xa_cons (x_add (xe_lst (xa_cons (x_ixA hr.units (xv 3) xe_int) xa_nil)) (xe_comp [("row", 7)] rfl sc_linked_names.nd (xi_seq (xv 2)) (blkOk_by (by kernel_rfl)) (fun _ _ _ _ _ => (xcg_name 7 sc_linked_names.nd)) (fun _ _ _ _ _ => xts_nil) (fun _ _ _ _ _ => (x_ixA hr.units (xv 7) xe_int)))) xa_nil)))))
(xss_cons (xs_for PassesOwn.never rfl (xi_seq (x_ixA hr.units (xv 0) xe_int)) (xg_tup rfl (xgs_cons (xg_name 4 sc_linked_names.nd) (xgs_cons (xg_name 5 sc_linked_names.nd) (xgs_cons (xg_name 6 sc_linked_names.nd) xgs_nil))))
(xss_one (xs_expr (m_append (xv 1) (xa_cons (x_add (xe_lst (xa_cons (xv 4) xa_nil)) (xe_comp [("row", 7)] rfl sc_linked_names.nd (xi_seq (xv 6)) (blkOk_by (by kernel_rfl)) (fun _ _ _ _ _ => (xcg_name 7 sc_linked_names.nd)) (fun _ _ _ _ _ => xts_nil) (fun _ _ _ _ _ => (x_ixA hr.units (xv 7) xe_int)))) xa_nil)))))
(xss_one (xs_ret (xv 1))))))
theorem der_house_parts (T : Txt mg) {F_linked_names : DSpec} (D_linked_names : TDef P w K mg base 1 "linked_names" s_linked_names ["house"] F_linked_names) (f : Addr) (cdv : Value) (A : Around) (outer : List PySem.Env) (s : Shared) (H : Hp) (E : XK) (hr : Room 1 (A.deeper (envOfC "house_parts" (defScope s_house_parts) s.heap.objs.size f cdv))) :
  XSs (cxOf CX0 P w K mg base N_house_parts "house_parts" (defScope s_house_parts) f cdv A outer s H E).nox (defBody s_house_parts) (d_house_parts F_linked_names) :=
(xss_cons (xs_setComp 1 [("table", 6)] rfl sc_house_parts.nd (xi_seq (x_ixA hr.units (xv 0) xe_int)) (blkOk_by (by kernel_rfl)) (fun _ _ _ _ _ => (xcg_name 6 sc_house_parts.nd)) (fun _ _ _ _ _ => xts_nil) (fun _ _ _ _ _ => (xe_lst (xa_cons (x_ixA hr.units (xv 6) xe_int) xa_nil))) (sw_true rfl rfl rfl (by decide +kernel)))
(xss_cons (xs_for PassesOwn.never rfl (xi_seq (c_def D_linked_names hr (xa_cons (xv 0) xa_nil))) (xg_name 2 sc_house_parts.nd)
(xss_cons (xs_set 3 sc_house_parts.nd (xe_lst xa_nil))
(xss_cons (xs_set 4 sc_house_parts.nd (xe_lst xa_nil))
(xss_cons (xs_for PassesOwn.never rfl (xi_seq (xv 1)) (xg_name 5 sc_house_parts.nd)
(xss_one (xs_if (xt_val (c_any rfl (by rfl) T.z_any (xa_cons (xe_comp [("name", 7)] rfl sc_house_parts.nd (xi_seq (xv 5)) (blkOk_by (by kernel_rfl)) (fun _ _ _ _ _ => (xcg_name 7 sc_house_parts.nd)) (fun _ _ _ _ _ => xts_nil) (fun _ _ _ _ _ => (x_inA hr.units (xv 7) (xv 2)))) xa_nil)))
(xss_one (xs_expr (m_extend (xv 3) (xa_cons (xv 5) xa_nil))))
(xss_one (xs_expr (m_append (xv 4) (xa_cons (xv 5) xa_nil)))))))
(xss_one (xs_set 1 sc_house_parts.nd (x_add (xv 4) (xe_lst (xa_cons (xv 3) xa_nil)))))))))
(xss_one (xs_ret (c_tuple (by rfl) T.z_tuple (xa_cons (c_sorted hr.units (by rfl) T.z_sorted (xa_cons (xe_comp [("part", 5)] rfl sc_house_parts.nd (xi_seq (xv 1)) (blkOk_by (by kernel_rfl)) (fun _ _ _ _ _ => (xcg_name 5 sc_house_parts.nd)) (fun _ _ _ _ _ => xts_nil) (fun _ _ _ _ _ => (c_tuple (by rfl) T.z_tuple (xa_cons (c_sorted hr.units (by rfl) T.z_sorted (xa_cons (xv 5) xa_nil)) xa_nil)))) xa_nil)) xa_nil))))))
theorem der_law_pool (T : Txt mg) (f : Addr) (cdv : Value) (A : Around) (outer : List PySem.Env) (s : Shared) (H : Hp) (E : XK) (hr : Room 0 (A.deeper (envOfC "_law_pool" (defScope s_law_pool) s.heap.objs.size f cdv))) :
  XSs (cxOf CX0 P w K mg base N_law_pool "_law_pool" (defScope s_law_pool) f cdv A outer s H E).nox (defBody s_law_pool) (d_law_pool) :=
(xss_cons (xs_set 1 sc_law_pool.nd (xe_lst xa_nil))
(xss_cons (xs_set 2 sc_law_pool.nd xe_int)
(xss_cons (xs_for PassesOwn.never rfl (xi_seq (x_slice (xv 0) xo_none (xo_some xe_int))) (xg_name 3 sc_law_pool.nd)
(xss_cons (xs_set 4 sc_law_pool.nd (xe_if (t_ge (c_int (by rfl) T.z_int (xa_cons (xv 3) xa_nil)) xe_int) (c_int (by rfl) T.z_int (xa_cons (xv 3) xa_nil)) (x_sub xe_int (x_mul xe_int (c_int (by rfl) T.z_int (xa_cons (xv 3) xa_nil))))))
(xss_cons (xs_if (t_ge (xv 4) (x_pow xe_int xe_int))
(xss_one (xs_expr (m_append (xv 1) (xa_cons (xv 4) xa_nil))))
xss_nil)
(xss_cons (xs_set 5 sc_law_pool.nd (x_mod (c_int (by rfl) T.z_int (xa_cons (xv 4) xa_nil)) xe_int))
(xss_one (xs_set 2 sc_law_pool.nd (x_mod (c_int (by rfl) T.z_int (xa_cons (x_mul (x_add (x_add (xv 2) (xv 5)) xe_int) (x_add (x_add (xv 2) (x_mul xe_int (xv 5))) xe_int)) xa_nil)) xe_int)))))))
(xss_one (xs_ret (xe_lst (xa_cons (xv 1) (xa_cons (x_mod (c_int (by rfl) T.z_int (xa_cons (x_mul (xv 2) (x_add (xv 2) xe_int)) xa_nil)) xe_int) xa_nil))))))))
theorem der_law_pick (T : Txt mg) (f : Addr) (cdv : Value) (A : Around) (outer : List PySem.Env) (s : Shared) (H : Hp) (E : XK) (hr : Room 0 (A.deeper (envOfC "_law_pick" (defScope s_law_pick) s.heap.objs.size f cdv))) :
  XSs (cxOf CX0 P w K mg base N_law_pick "_law_pick" (defScope s_law_pick) f cdv A outer s H E).nox (defBody s_law_pick) (d_law_pick) :=
(xss_cons (xs_set 2 sc_law_pick.nd (x_ixA hr.units (xv 0) xe_int))
(xss_cons (xs_if (xt_val (xv 2))
(xss_cons (xs_set 3 sc_law_pick.nd (c_int (by rfl) T.z_int (xa_cons (x_ixA hr.units (xv 2) xe_int) xa_nil)))
(xss_cons (xs_asg (x_div (xv 3) (xv 1)) (g_subA hr.units (xv 2) xe_int))
(xss_cons (xs_if (t_eq hr.units (x_ixA hr.units (xv 2) xe_int) xe_int)
(xss_one (xs_expr (m_pop1 (xv 2) (xa_cons xe_int xa_nil))))
xss_nil)
(xss_one (xs_ret (x_mod (c_int (by rfl) T.z_int (xa_cons (xv 3) xa_nil)) (xv 1)))))))
xss_nil)
(xss_cons (xs_set 4 sc_law_pick.nd (c_int (by rfl) T.z_int (xa_cons (x_ixA hr.units (xv 0) xe_int) xa_nil)))
(xss_cons (xs_asg (x_mod (c_int (by rfl) T.z_int (xa_cons (x_add (x_mul (xv 4) xe_int) xe_int) xa_nil)) xe_int) (g_subA hr.units (xv 0) xe_int))
(xss_one (xs_ret (x_mod (c_int (by rfl) T.z_int (xa_cons (x_add (x_div (xv 4) xe_int) (x_mod (c_int (by rfl) T.z_int (xa_cons (x_mul (xv 4) xe_int) xa_nil)) xe_int)) xa_nil)) (xv 1))))))))
theorem der_law_names (T : Txt mg) {F_law_pick : DSpec} (D_law_pick : TDef P w K mg base 1 "_law_pick" s_law_pick ["pool", "many"] F_law_pick) (f : Addr) (cdv : Value) (A : Around) (outer : List PySem.Env) (s : Shared) (H : Hp) (E : XK) (hr : Room 1 (A.deeper (envOfC "_law_names" (defScope s_law_names) s.heap.objs.size f cdv))) :
  XSs (cxOf CX0 P w K mg base N_law_names "_law_names" (defScope s_law_names) f cdv A outer s H E).nox (defBody s_law_names) (d_law_names F_law_pick) :=
(xss_cons (xs_set 3 sc_law_names.nd xe_str)
(xss_cons (xs_set 4 sc_law_names.nd (x_eq hr.units (c_def D_law_pick hr (xa_cons (xv 0) (xa_cons xe_int xa_nil))) xe_int))
(xss_cons (xs_set 5 sc_law_names.nd (c_def D_law_pick hr (xa_cons (xv 0) (xa_cons (x_mul (x_mul xe_int xe_int) (x_pow xe_int xe_int)) xa_nil))))
(xss_cons (xs_set 6 sc_law_names.nd (xe_lst xa_nil))
(xss_cons (xs_for PassesOwn.never rfl (xi_range1 (by rfl) T.z_range (xa_cons (xv 1) xa_nil)) (xg_name 7 sc_law_names.nd)
(xss_cons (xs_set 8 sc_law_names.nd (xe_if (xt_val (xv 4)) (x_add (xv 5) (xv 7)) (c_def D_law_pick hr (xa_cons (xv 0) (xa_cons (x_mul (x_mul xe_int xe_int) (x_pow xe_int xe_int)) xa_nil)))))
(xss_cons (xs_set 9 sc_law_names.nd (x_ixA hr.units (xv 3) (x_add xe_int (x_mod (c_int (by rfl) T.z_int (xa_cons (xv 8) xa_nil)) xe_int))))
(xss_cons (xs_for PassesOwn.never rfl (xi_range1 (by rfl) T.z_range (xa_cons (x_mod (c_int (by rfl) T.z_int (xa_cons (xv 5) xa_nil)) xe_int) xa_nil)) (xg_name 10 sc_law_names.nd)
(xss_cons (xs_set 8 sc_law_names.nd (x_div (xv 8) (xe_if (t_eq hr.units (xv 10) xe_int) xe_int xe_int)))
(xss_one (xs_set 9 sc_law_names.nd (x_add (xv 9) (x_ixA hr.units (xv 3) (x_mod (c_int (by rfl) T.z_int (xa_cons (xv 8) xa_nil)) xe_int)))))))
(xss_cons (xs_for PassesOwn.never rfl (xi_range1 (by rfl) T.z_range (xa_cons (x_add (c_lenA (by rfl) T.z_len (xa_cons (xv 2) xa_nil)) xe_int) xa_nil)) (xg_name 11 sc_law_names.nd)
(xss_one (xs_if (XW.xt (xw_or (t_inA hr.units (xv 9) (xv 2)) (xw_or1 (XW.xt (xw_and (t_gt (c_lenA (by rfl) T.z_len (xa_cons (xv 9) xa_nil)) xe_int) (xw_and1 (xt_val (m_isalpha (xv 9)))))))))
(xss_one (xs_set 9 sc_law_names.nd (x_add (x_ixA hr.units xe_str (x_mod (c_int (by rfl) T.z_int (xa_cons (xv 11) xa_nil)) xe_int)) (c_str (by rfl) T.z_str (xa_cons (x_add (x_add (c_lenA (by rfl) T.z_len (xa_cons (xv 2) xa_nil)) (xv 11)) xe_int) xa_nil)))))
xss_nil)))
(xss_cons (xs_asg xe_bl (g_subA hr.units (xv 2) (xv 9)))
(xss_one (xs_expr (m_append (xv 6) (xa_cons (xv 9) xa_nil))))))))))
(xss_one (xs_ret (xv 6))))))))
theorem der_law_shuffled (T : Txt mg) {F_law_pick : DSpec} (D_law_pick : TDef P w K mg base 1 "_law_pick" s_law_pick ["pool", "many"] F_law_pick) (f : Addr) (cdv : Value) (A : Around) (outer : List PySem.Env) (s : Shared) (H : Hp) (E : XK) (hr : Room 1 (A.deeper (envOfC "_law_shuffled" (defScope s_law_shuffled) s.heap.objs.size f cdv))) :
  XSs (cxOf CX0 P w K mg base N_law_shuffled "_law_shuffled" (defScope s_law_shuffled) f cdv A outer s H E).nox (defBody s_law_shuffled) (d_law_shuffled F_law_pick) :=
(xss_cons (xs_set 2 sc_law_shuffled.nd (c_listA rfl (by rfl) T.z_list (xa_cons (xv 1) xa_nil)))
(xss_one (xs_ret (xe_comp [("thing", 3)] rfl sc_law_shuffled.nd (xi_seq (xv 1)) (blkOk_by (by kernel_rfl)) (fun _ _ _ _ _ => (xcg_name 3 sc_law_shuffled.nd)) (fun _ _ _ _ _ => xts_nil) (fun _ _ _ _ _ => (m_pop1 (xv 2) (xa_cons (c_def D_law_pick hr (xa_cons (xv 0) (xa_cons (c_lenA (by rfl) T.z_len (xa_cons (xv 2) xa_nil)) xa_nil))) xa_nil)))))))
theorem der_law_marks (T : Txt mg) (f : Addr) (cdv : Value) (A : Around) (outer : List PySem.Env) (s : Shared) (H : Hp) (E : XK) (hr : Room 0 (A.deeper (envOfC "_law_marks" (defScope s_law_marks) s.heap.objs.size f cdv))) :
  XSs (cxOf CX0 P w K mg base N_law_marks "_law_marks" (defScope s_law_marks) f cdv A outer s H E).nox (defBody s_law_marks) (d_law_marks) :=
(xss_cons (xs_set 1 sc_law_marks.nd (xe_lst xa_nil))
(xss_cons (xs_for PassesOwn.never rfl (xi_seq (xv 0)) (xg_tup rfl (xgs_cons (xg_name 2 sc_law_marks.nd) (xgs_cons (xg_name 3 sc_law_marks.nd) xgs_nil)))
(xss_one (xs_for PassesOwn.never rfl (xi_seq (xv 3)) (xg_name 4 sc_law_marks.nd)
(xss_one (xs_if (XW.xt (xw_and (xt_val (c_isi (by rfl) T.z_isinstance (xa_cons (xv 4) (xa_cons (xe_ty (n := "str") (by rfl) T.z_str (by decide +kernel)) xa_nil)))) (xw_and1 (t_notinA hr.units (xv 4) (xv 1)))))
(xss_one (xs_expr (m_append (xv 1) (xa_cons (xv 4) xa_nil))))
xss_nil)))))
(xss_one (xs_ret (xv 1)))))
theorem der_law_open (T : Txt mg) {F_law_marks : DSpec} (D_law_marks : TDef P w K mg base 1 "_law_marks" s_law_marks ["rows"] F_law_marks) (f : Addr) (cdv : Value) (A : Around) (outer : List PySem.Env) (s : Shared) (H : Hp) (E : XK) (hr : Room 1 (A.deeper (envOfC "_law_open" (defScope s_law_open) s.heap.objs.size f cdv))) :
  XSs (cxOf CX0 P w K mg base N_law_open "_law_open" (defScope s_law_open) f cdv A outer s H E).nox (defBody s_law_open) (d_law_open F_law_marks) :=
(xss_cons (xs_set 1 sc_law_open.nd (c_def D_law_marks hr (xa_cons (x_ixA hr.units (xv 0) xe_int) xa_nil)))
(xss_one (xs_ret (xe_comp [("mark", 2)] rfl sc_law_open.nd (xi_seq (c_def D_law_marks hr (xa_cons (xe_tup (xa_cons (x_ixA hr.units (xv 0) xe_int) xa_nil)) xa_nil))) (blkOk_by (by kernel_rfl)) (fun _ _ _ _ _ => (xcg_name 2 sc_law_open.nd)) (fun _ _ _ _ _ => (xts_one (t_notinA hr.units (xv 2) (xv 1)))) (fun _ _ _ _ _ => (xv 2))))))
theorem der_law_same (T : Txt mg) {F_law_same : DSpec} (k : Nat) (D_law_same : TDef P w K mg base k "_law_same" s_law_same ["due", "told"] F_law_same) (f : Addr) (cdv : Value) (A : Around) (outer : List PySem.Env) (s : Shared) (H : Hp) (E : XK) (hr : Room k (A.deeper (envOfC "_law_same" (defScope s_law_same) s.heap.objs.size f cdv))) :
  XSs (cxOf CX0 P w K mg base N_law_same "_law_same" (defScope s_law_same) f cdv A outer s H E).nox (defBody s_law_same) (d_law_same F_law_same) :=
(xss_cons (xs_if (XW.xt (xw_or (xt_val (c_isi (by rfl) T.z_isinstance (xa_cons (xv 0) (xa_cons (xe_ty (n := "bool") (by rfl) T.z_bool (by decide +kernel)) xa_nil)))) (xw_or1 (xt_val (c_isi (by rfl) T.z_isinstance (xa_cons (xv 1) (xa_cons (xe_ty (n := "bool") (by rfl) T.z_bool (by decide +kernel)) xa_nil)))))))
(xss_one (xs_ret (xe_and (c_isi (by rfl) T.z_isinstance (xa_cons (xv 0) (xa_cons (xe_ty (n := "bool") (by rfl) T.z_bool (by decide +kernel)) xa_nil))) (xe_and (c_isi (by rfl) T.z_isinstance (xa_cons (xv 1) (xa_cons (xe_ty (n := "bool") (by rfl) T.z_bool (by decide +kernel)) xa_nil))) (xe_one (x_eq hr.units (xv 0) (xv 1)))))))
xss_nil)
(xss_cons (xs_if (XW.xt (xw_or (xt_val (c_isi (by rfl) T.z_isinstance (xa_cons (xv 0) (xa_cons (xe_ty (n := "tuple") (by rfl) T.z_tuple (by decide +kernel)) xa_nil)))) (xw_or1 (xt_val (c_isi (by rfl) T.z_isinstance (xa_cons (xv 0) (xa_cons (xe_ty (n := "list") (by rfl) T.z_list (by decide +kernel)) xa_nil)))))))
(xss_cons (xs_if (XW.xt (xw_or (XW.xt (xw_and (xt_val (c_isi (by rfl) T.z_isinstance (xa_cons (xv 0) (xa_cons (xe_ty (n := "tuple") (by rfl) T.z_tuple (by decide +kernel)) xa_nil)))) (xw_and1 (xt_not (xt_val (c_isi (by rfl) T.z_isinstance (xa_cons (xv 1) (xa_cons (xe_ty (n := "tuple") (by rfl) T.z_tuple (by decide +kernel)) xa_nil)))))))) (xw_or1 (XW.xt (xw_and (xt_val (c_isi (by rfl) T.z_isinstance (xa_cons (xv 0) (xa_cons (xe_ty (n := "list") (by rfl) T.z_list (by decide +kernel)) xa_nil)))) (xw_and1 (xt_not (xt_val (c_isi (by rfl) T.z_isinstance (xa_cons (xv 1) (xa_cons (xe_ty (n := "list") (by rfl) T.z_list (by decide +kernel)) xa_nil)))))))))))
(xss_one (xs_ret xe_bl))
xss_nil)
(xss_cons (xs_if (t_ne hr.units (c_lenA (by rfl) T.z_len (xa_cons (xv 0) xa_nil)) (c_lenA (by rfl) T.z_len (xa_cons (xv 1) xa_nil)))
(xss_one (xs_ret xe_bl))
xss_nil)
(xss_one (xs_ret (xe_notU (xe_comp [("at", 2)] rfl sc_law_same.nd (xi_range1 (by rfl) T.z_range (xa_cons (c_lenA (by rfl) T.z_len (xa_cons (xv 0) xa_nil)) xa_nil)) (blkOk_by (by kernel_rfl)) (fun _ _ _ _ _ => (xcg_name 2 sc_law_same.nd)) (fun _ _ _ _ _ => (xts_one (xt_not (xt_val (c_def D_law_same hr (xa_cons (x_ixA hr.units (xv 0) (xv 2)) (xa_cons (x_ixA hr.units (xv 1) (xv 2)) xa_nil)) (Nat.le_refl _)))))) (fun _ _ _ _ _ => (xv 2))))))))
xss_nil)
(xss_cons (xs_if (XW.xt (xw_or (t_is (xv 0) xe_non) (xw_or1 (t_is (xv 1) xe_non))))
(xss_one (xs_ret (xe_and (x_is (xv 0) xe_non) (xe_one (x_is (xv 1) xe_non)))))
xss_nil)
(xss_cons (xs_if (xt_val (c_isi (by rfl) T.z_isinstance (xa_cons (xv 0) (xa_cons (xe_ty (n := "str") (by rfl) T.z_str (by decide +kernel)) xa_nil))))
(xss_one (xs_ret (xe_and (c_isi (by rfl) T.z_isinstance (xa_cons (xv 1) (xa_cons (xe_ty (n := "str") (by rfl) T.z_str (by decide +kernel)) xa_nil))) (xe_one (x_eq hr.units (xv 0) (xv 1))))))
xss_nil)
(xss_one (xs_ret (xe_and (c_isi (by rfl) T.z_isinstance (xa_cons (xv 1) (xa_cons (xe_ty (n := "int") (by rfl) T.z_int (by decide +kernel)) xa_nil))) (xe_one (x_eq hr.units (xv 0) (xv 1))))))))))
theorem der_law_row (T : Txt mg) {F_law_pick : DSpec} (D_law_pick : TDef P w K mg base 1 "_law_pick" s_law_pick ["pool", "many"] F_law_pick) (f : Addr) (cdv : Value) (A : Around) (outer : List PySem.Env) (s : Shared) (H : Hp) (E : XK) (hr : Room 1 (A.deeper (envOfC "_law_row" (defScope s_law_row) s.heap.objs.size f cdv))) :
  XSs (cxOf CX0 P w K mg base N_law_row "_law_row" (defScope s_law_row) f cdv A outer s H E).nox (defBody s_law_row) (d_law_row F_law_pick) :=
(xss_one (xs_ret (xe_tup (xa_cons (x_ixA hr.units (xv 1) xe_int) (xa_cons (c_tuple (by rfl) T.z_tuple (xa_cons (xe_comp [("column", 3)] rfl sc_law_row.nd (xi_range1 (by rfl) T.z_range (xa_cons (x_ixA hr.units (xv 1) xe_int) xa_nil)) (blkOk_by (by kernel_rfl)) (fun _ _ _ _ _ => (xcg_name 3 sc_law_row.nd)) (fun _ _ _ _ _ => xts_nil) (fun _ _ _ _ _ => (x_ixA hr.units (xv 2) (c_def D_law_pick hr (xa_cons (xv 0) (xa_cons (c_lenA (by rfl) T.z_len (xa_cons (xv 2) xa_nil)) xa_nil)))))) xa_nil)) xa_nil)))))
theorem der_law_rules (T : Txt mg) {F_law_pick : DSpec} {F_law_names : DSpec} {F_law_row : DSpec} (D_law_pick : TDef P w K mg base 1 "_law_pick" s_law_pick ["pool", "many"] F_law_pick) (D_law_names : TDef P w K mg base 2 "_law_names" s_law_names ["pool", "many", "taken"] F_law_names) (D_law_row : TDef P w K mg base 2 "_law_row" s_law_row ["pool", "table", "marks"] F_law_row) (f : Addr) (cdv : Value) (A : Around) (outer : List PySem.Env) (s : Shared) (H : Hp) (E : XK) (hr : Room 2 (A.deeper (envOfC "_law_rules" (defScope s_law_rules) s.heap.objs.size f cdv))) :
  XSs (cxOf CX0 P w K mg base N_law_rules "_law_rules" (defScope s_law_rules) f cdv A outer s H E).nox (defBody s_law_rules) (d_law_rules F_law_pick F_law_names F_law_row) :=
(xss_cons (xs_set 3 sc_law_rules.nd (xe_lst xa_nil))
(xss_cons (xs_for PassesOwn.never rfl (xi_range1 (by rfl) T.z_range (xa_cons (xe_if (t_gt (c_lenA (by rfl) T.z_len (xa_cons (xv 1) xa_nil)) xe_int) (c_def D_law_pick hr (xa_cons (xv 0) (xa_cons (x_add (xv 2) xe_int) xa_nil))) xe_int) xa_nil)) (xg_name 4 sc_law_rules.nd)
(xss_cons (xs_set 5 sc_law_rules.nd (x_add xe_int (c_def D_law_pick hr (xa_cons (xv 0) (xa_cons (x_sub (c_lenA (by rfl) T.z_len (xa_cons (xv 1) xa_nil)) xe_int) xa_nil)))))
(xss_cons (xs_set 6 sc_law_rules.nd (c_def D_law_names hr (xa_cons (xv 0) (xa_cons xe_int (xa_cons xe_dict0 xa_nil)))))
(xss_cons (xs_set 7 sc_law_rules.nd (x_ixA hr.units (xe_lst (xa_cons xe_int (xa_cons xe_int (xa_cons xe_int (xa_cons xe_int xa_nil))))) (c_def D_law_pick hr (xa_cons (xv 0) (xa_cons xe_int xa_nil)))))
(xss_cons (xs_setComp 8 [("at", 9)] rfl sc_law_rules.nd (xi_range1 (by rfl) T.z_range (xa_cons (xv 7) xa_nil)) (blkOk_by (by kernel_rfl)) (fun _ _ _ _ _ => (xcg_name 9 sc_law_rules.nd)) (fun _ _ _ _ _ => xts_nil) (fun _ _ _ _ _ => (c_def D_law_row hr (xa_cons (xv 0) (xa_cons (x_ixA hr.units (xv 1) (c_def D_law_pick hr (xa_cons (xv 0) (xa_cons (xv 5) xa_nil)))) (xa_cons (x_slice (xv 6) xo_none (xo_some (x_add xe_int (c_def D_law_pick hr (xa_cons (xv 0) (xa_cons xe_int xa_nil)))))) xa_nil))))) (sw_true rfl rfl rfl (by decide +kernel)))
(xss_one (xs_expr (m_append (xv 3) (xa_cons (xe_tup (xa_cons (c_tuple (by rfl) T.z_tuple (xa_cons (xv 8) xa_nil)) (xa_cons (c_def D_law_row hr (xa_cons (xv 0) (xa_cons (x_ixA hr.units (xv 1) (xv 5)) (xa_cons (x_slice (xv 6) xo_none (xo_some (x_add xe_int (c_def D_law_pick hr (xa_cons (xv 0) (xa_cons xe_int xa_nil)))))) xa_nil)))) xa_nil))) xa_nil)))))))))
(xss_one (xs_ret (c_tuple (by rfl) T.z_tuple (xa_cons (xv 3) xa_nil))))))
theorem der_law_ties (T : Txt mg) {F_law_pick : DSpec} (D_law_pick : TDef P w K mg base 1 "_law_pick" s_law_pick ["pool", "many"] F_law_pick) (f : Addr) (cdv : Value) (A : Around) (outer : List PySem.Env) (s : Shared) (H : Hp) (E : XK) (hr : Room 1 (A.deeper (envOfC "_law_ties" (defScope s_law_ties) s.heap.objs.size f cdv))) :
  XSs (cxOf CX0 P w K mg base N_law_ties "_law_ties" (defScope s_law_ties) f cdv A outer s H E).nox (defBody s_law_ties) (d_law_ties F_law_pick) :=
(xss_cons (xs_set 3 sc_law_ties.nd (xe_lst xa_nil))
(xss_cons (xs_for PassesOwn.never rfl (xi_range1 (by rfl) T.z_range (xa_cons (c_def D_law_pick hr (xa_cons (xv 0) (xa_cons (x_add (xv 2) xe_int) xa_nil))) xa_nil)) (xg_name 4 sc_law_ties.nd)
(xss_cons (xs_asg (x_ixA hr.units (xv 1) (c_def D_law_pick hr (xa_cons (xv 0) (xa_cons (c_lenA (by rfl) T.z_len (xa_cons (xv 1) xa_nil)) xa_nil)))) (xg_tup rfl (xgs_cons (xg_name 5 sc_law_ties.nd) (xgs_cons (xg_name 6 sc_law_ties.nd) xgs_nil))))
(xss_one (xs_if (t_gt (xv 6) xe_int)
(xss_cons (xs_set 7 sc_law_ties.nd (c_def D_law_pick hr (xa_cons (xv 0) (xa_cons (xv 6) xa_nil))))
(xss_cons (xs_setComp 8 [("column", 9)] rfl sc_law_ties.nd (xi_range1 (by rfl) T.z_range (xa_cons (xv 6) xa_nil)) (blkOk_by (by kernel_rfl)) (fun _ _ _ _ _ => (xcg_name 9 sc_law_ties.nd)) (fun _ _ _ _ _ => (xts_one (XW.xt (xw_and (t_ne hr.units (xv 9) (xv 7)) (xw_and1 (t_gt (c_def D_law_pick hr (xa_cons (xv 0) (xa_cons xe_int xa_nil))) xe_int)))))) (fun _ _ _ _ _ => (xv 9)) (sw_true rfl rfl rfl (by decide +kernel)))
(xss_one (xs_expr (m_append (xv 3) (xa_cons (xe_tup (xa_cons (xv 5) (xa_cons (xe_if (xt_val (xv 8)) (c_tuple (by rfl) T.z_tuple (xa_cons (xv 8) xa_nil)) (xe_tup (xa_cons (x_mod (c_int (by rfl) T.z_int (xa_cons (x_add (xv 7) xe_int) xa_nil)) (xv 6)) xa_nil))) (xa_cons (xv 7) xa_nil)))) xa_nil))))))
xss_nil))))
(xss_one (xs_ret (c_tuple (by rfl) T.z_tuple (xa_cons (xv 3) xa_nil))))))
theorem der_law_doors (T : Txt mg) {F_law_pick : DSpec} (D_law_pick : TDef P w K mg base 1 "_law_pick" s_law_pick ["pool", "many"] F_law_pick) (f : Addr) (cdv : Value) (A : Around) (outer : List PySem.Env) (s : Shared) (H : Hp) (E : XK) (hr : Room 1 (A.deeper (envOfC "_law_doors" (defScope s_law_doors) s.heap.objs.size f cdv))) :
  XSs (cxOf CX0 P w K mg base N_law_doors "_law_doors" (defScope s_law_doors) f cdv A outer s H E).nox (defBody s_law_doors) (d_law_doors F_law_pick) :=
(xss_cons (xs_set 4 sc_law_doors.nd (xe_lst xa_nil))
(xss_cons (xs_setComp 5 [("triple", 11)] rfl sc_law_doors.nd (xi_seq (xv 2)) (blkOk_by (by kernel_rfl)) (fun _ _ _ _ _ => (xcg_name 11 sc_law_doors.nd)) (fun _ _ _ _ _ => xts_nil) (fun _ _ _ _ _ => (x_ixA hr.units (xv 11) xe_int)) (sw_true rfl rfl rfl (by decide +kernel)))
(xss_cons (xs_for PassesOwn.never rfl (xi_seq (c_sorted hr.units (by rfl) T.z_sorted (xa_cons (xv 3) xa_nil))) (xg_name 6 sc_law_doors.nd)
(xss_cons (xs_asg (x_ixA hr.units (xv 1) (c_def D_law_pick hr (xa_cons (xv 0) (xa_cons (c_lenA (by rfl) T.z_len (xa_cons (xv 1) xa_nil)) xa_nil)))) (xg_tup rfl (xgs_cons (xg_name 7 sc_law_doors.nd) (xgs_cons (xg_name 8 sc_law_doors.nd) xgs_nil))))
(xss_cons (xs_set 9 sc_law_doors.nd (c_tuple (by rfl) T.z_tuple (xa_cons (xe_comp [("column", 12)] rfl sc_law_doors.nd (xi_range1 (by rfl) T.z_range (xa_cons (xv 8) xa_nil)) (blkOk_by (by kernel_rfl)) (fun _ _ _ _ _ => (xcg_name 12 sc_law_doors.nd)) (fun _ _ _ _ _ => (xts_one (t_eq hr.units (c_def D_law_pick hr (xa_cons (xv 0) (xa_cons xe_int xa_nil))) xe_int))) (fun _ _ _ _ _ => (xv 12))) xa_nil)))
(xss_cons (xs_set 10 sc_law_doors.nd (xe_if (XW.xt (xw_and (t_notinA hr.units (xv 7) (xv 5)) (xw_and1 (t_eq hr.units (c_def D_law_pick hr (xa_cons (xv 0) (xa_cons xe_int xa_nil))) xe_int)))) xe_str xe_str))
(xss_cons (xs_if (t_eq hr.units (xv 10) xe_str)
(xss_one (xs_expr (m_append (xv 5) (xa_cons (xv 7) xa_nil))))
xss_nil)
(xss_one (xs_expr (m_append (xv 4) (xa_cons (xe_tup (xa_cons (xv 6) (xa_cons (xv 7) (xa_cons (xv 9) (xa_cons (xv 10) xa_nil))))) xa_nil)))))))))
(xss_one (xs_ret (c_tuple (by rfl) T.z_tuple (xa_cons (xv 4) xa_nil)))))))
theorem der_law_house (T : Txt mg) {F_law_pick : DSpec} {F_law_names : DSpec} {F_law_row : DSpec} {F_law_shuffled : DSpec} {F_law_marks : DSpec} {F_law_doors : DSpec} {F_law_ties : DSpec} {F_law_rules : DSpec} (D_law_pick : TDef P w K mg base 1 "_law_pick" s_law_pick ["pool", "many"] F_law_pick) (D_law_names : TDef P w K mg base 2 "_law_names" s_law_names ["pool", "many", "taken"] F_law_names) (D_law_row : TDef P w K mg base 2 "_law_row" s_law_row ["pool", "table", "marks"] F_law_row) (D_law_shuffled : TDef P w K mg base 2 "_law_shuffled" s_law_shuffled ["pool", "things"] F_law_shuffled) (D_law_marks : TDef P w K mg base 1 "_law_marks" s_law_marks ["rows"] F_law_marks) (D_law_doors : TDef P w K mg base 2 "_law_doors" s_law_doors ["pool", "tables", "kept", "names"] F_law_doors) (D_law_ties : TDef P w K mg base 2 "_law_ties" s_law_ties ["pool", "tables", "most"] F_law_ties) (D_law_rules : TDef P w K mg base 3 "_law_rules" s_law_rules ["pool", "tables", "most"] F_law_rules) (f : Addr) (cdv : Value) (A : Around) (outer : List PySem.Env) (s : Shared) (H : Hp) (E : XK) (hr : Room 3 (A.deeper (envOfC "_law_house" (defScope s_law_house) s.heap.objs.size f cdv))) :
  XSs (cxOf CX0 P w K mg base N_law_house "_law_house" (defScope s_law_house) f cdv A outer s H E).nox (defBody s_law_house) (d_law_house F_law_pick F_law_names F_law_row F_law_shuffled F_law_marks F_law_doors F_law_ties F_law_rules) :=
(xss_cons (xs_set 6 sc_law_house.nd (x_add xe_int (c_def D_law_pick hr (xa_cons (xv 0) (xa_cons (xv 1) xa_nil)))))
(xss_cons (xs_set 7 sc_law_house.nd (c_def D_law_names hr (xa_cons (xv 0) (xa_cons (x_add (xv 6) (xv 5)) (xa_cons xe_dict0 xa_nil)))))
(xss_cons (xs_setComp 8 [("at", 17)] rfl sc_law_house.nd (xi_range1 (by rfl) T.z_range (xa_cons (xv 6) xa_nil)) (blkOk_by (by kernel_rfl)) (fun _ _ _ _ _ => (xcg_name 17 sc_law_house.nd)) (fun _ _ _ _ _ => xts_nil) (fun _ _ _ _ _ => (xe_tup (xa_cons (x_ixA hr.units (xv 7) (xv 17)) (xa_cons (x_add xe_int (c_def D_law_pick hr (xa_cons (xv 0) (xa_cons xe_int xa_nil)))) xa_nil)))) (sw_true rfl rfl rfl (by decide +kernel)))
(xss_cons (xs_set 9 sc_law_house.nd (c_tuple (by rfl) T.z_tuple (xa_cons (xv 8) xa_nil)))
(xss_cons (xs_set 10 sc_law_house.nd (xe_lst xa_nil))
(xss_cons (xs_for PassesOwn.never rfl (xi_range1 (by rfl) T.z_range (xa_cons (c_def D_law_pick hr (xa_cons (xv 0) (xa_cons (x_add (xv 5) xe_int) xa_nil))) xa_nil)) (xg_name 11 sc_law_house.nd)
(xss_cons (xs_set 12 sc_law_house.nd (c_def D_law_names hr (xa_cons (xv 0) (xa_cons xe_int (xa_cons xe_dict0 xa_nil)))))
(xss_cons (xs_set 13 sc_law_house.nd (c_tuple (by rfl) T.z_tuple (xa_cons (xe_comp [("at", 17)] rfl sc_law_house.nd (xi_range1 (by rfl) T.z_range (xa_cons (x_add xe_int (c_def D_law_pick hr (xa_cons (xv 0) (xa_cons xe_int xa_nil)))) xa_nil)) (blkOk_by (by kernel_rfl)) (fun _ _ _ _ _ => (xcg_name 17 sc_law_house.nd)) (fun _ _ _ _ _ => xts_nil) (fun _ _ _ _ _ => (c_def D_law_row hr (xa_cons (xv 0) (xa_cons (x_ixA hr.units (xv 9) (c_def D_law_pick hr (xa_cons (xv 0) (xa_cons (xv 6) xa_nil)))) (xa_cons (xv 12) xa_nil)))))) xa_nil)))
(xss_cons (xs_set 14 sc_law_house.nd (x_slice (c_def D_law_shuffled hr (xa_cons (xv 0) (xa_cons (c_def D_law_marks hr (xa_cons (xv 13) xa_nil)) xa_nil))) xo_none (xo_some (x_add xe_int (c_def D_law_pick hr (xa_cons (xv 0) (xa_cons xe_int xa_nil)))))))
(xss_cons (xs_expr (m_append (xv 10) (xa_cons (xe_tup (xa_cons (x_ixA hr.units (xv 7) (x_add (xv 6) (xv 11))) (xa_cons (c_tuple (by rfl) T.z_tuple (xa_cons (xv 14) xa_nil)) (xa_cons (xv 13) xa_nil)))) xa_nil)))
(xss_one (xs_expr (m_append (xv 8) (xa_cons (xe_tup (xa_cons (x_ixA hr.units (xv 7) (x_add (xv 6) (xv 11))) (xa_cons (c_lenA (by rfl) T.z_len (xa_cons (xv 14) xa_nil)) xa_nil))) xa_nil)))))))))
(xss_cons (xs_set 15 sc_law_house.nd (xe_if (xt_val (c_def D_law_pick hr (xa_cons (xv 0) (xa_cons xe_int xa_nil)))) (c_sorted hr.units (by rfl) T.z_sorted (xa_cons (xe_comp [("at", 17)] rfl sc_law_house.nd (xi_range1 (by rfl) T.z_range (xa_cons (c_def D_law_pick hr (xa_cons (xv 0) (xa_cons xe_int xa_nil))) xa_nil)) (blkOk_by (by kernel_rfl)) (fun _ _ _ _ _ => (xcg_name 17 sc_law_house.nd)) (fun _ _ _ _ _ => xts_nil) (fun _ _ _ _ _ => (x_add (x_mul (c_def D_law_pick hr (xa_cons (xv 0) (xa_cons xe_int xa_nil))) xe_int) (xv 17)))) xa_nil)) (xe_lst (xa_cons xe_int (xa_cons (x_pow xe_int xe_int) xa_nil)))))
(xss_cons (xs_set 16 sc_law_house.nd (c_def D_law_doors hr (xa_cons (xv 0) (xa_cons (xv 8) (xa_cons (xv 10) (xa_cons (c_def D_law_names hr (xa_cons (xv 0) (xa_cons (c_def D_law_pick hr (xa_cons (xv 0) (xa_cons (x_add (xv 4) xe_int) xa_nil))) (xa_cons xe_dict0 xa_nil)))) xa_nil))))))
(xss_one (xs_ret (xe_tup (xa_cons (c_tuple (by rfl) T.z_tuple (xa_cons (xv 8) xa_nil)) (xa_cons (c_tuple (by rfl) T.z_tuple (xa_cons (xv 15) xa_nil)) (xa_cons (xv 16) (xa_cons (c_def D_law_rules hr (xa_cons (xv 0) (xa_cons (xv 9) (xa_cons (xv 2) xa_nil)))) (xa_cons (c_def D_law_ties hr (xa_cons (xv 0) (xa_cons (xv 9) (xa_cons (xv 3) xa_nil)))) (xa_cons (c_tuple (by rfl) T.z_tuple (xa_cons (c_sorted hr.units (by rfl) T.z_sorted (xa_cons (xv 10) xa_nil)) xa_nil)) xa_nil)))))))))))))))))
theorem der_law_levels (T : Txt mg) (f : Addr) (cdv : Value) (A : Around) (outer : List PySem.Env) (s : Shared) (H : Hp) (E : XK) (hr : Room 0 (A.deeper (envOfC "_law_levels" (defScope s_law_levels) s.heap.objs.size f cdv))) :
  XSs (cxOf CX0 P w K mg base N_law_levels "_law_levels" (defScope s_law_levels) f cdv A outer s H E).nox (defBody s_law_levels) (d_law_levels) :=
(xss_cons (xs_set 1 sc_law_levels.nd (c_dict rfl (by rfl) T.z_dict (xa_cons (xe_compT [("table", 2), ("width", 3)] rfl sc_law_levels.nd (xi_seq (x_ixA hr.units (xv 0) xe_int)) (blkOk_by (by kernel_rfl)) (fun _ _ _ _ _ => (xcgs_cons (xcg_name 2 sc_law_levels.nd) (xcgs_cons (xcg_name 3 sc_law_levels.nd) xcgs_nil))) (fun _ _ _ _ _ => xts_nil) (fun _ _ _ _ _ => (xe_tup (xa_cons (xv 2) (xa_cons xe_int xa_nil))))) xa_nil)))
(xss_cons (xs_for PassesOwn.never rfl (xi_seq (x_ixA hr.units (xv 0) xe_int)) (xg_tup rfl (xgs_cons (xg_name 2 sc_law_levels.nd) (xgs_cons (xg_name 3 sc_law_levels.nd) xgs_nil)))
(xss_one (xs_for PassesOwn.never rfl (xi_seq (x_ixA hr.units (xv 0) xe_int)) (xg_tup rfl (xgs_cons (xg_name 4 sc_law_levels.nd) (xgs_cons (xg_name 5 sc_law_levels.nd) xgs_nil)))
(xss_one (xs_if (t_eq hr.units (x_ixA hr.units (xv 5) xe_int) (xv 2))
(xss_one (xs_asg (c_max rfl (by rfl) T.z_max (xa_cons (x_add (xe_lst (xa_cons (x_ixA hr.units (xv 1) (xv 2)) xa_nil)) (xe_compT [("name", 6), ("terms", 7)] rfl sc_law_levels.nd (xi_seq (xv 4)) (blkOk_by (by kernel_rfl)) (fun _ _ _ _ _ => (xcgs_cons (xcg_name 6 sc_law_levels.nd) (xcgs_cons (xcg_name 7 sc_law_levels.nd) xcgs_nil))) (fun _ _ _ _ _ => xts_nil) (fun _ _ _ _ _ => (x_add (x_ixA hr.units (xv 1) (xv 6)) xe_int)))) xa_nil)) (g_subA hr.units (xv 1) (xv 2))))
xss_nil)))))
(xss_one (xs_ret (xv 1)))))
theorem der_law_parts (T : Txt mg) (f : Addr) (cdv : Value) (A : Around) (outer : List PySem.Env) (s : Shared) (H : Hp) (E : XK) (hr : Room 0 (A.deeper (envOfC "_law_parts" (defScope s_law_parts) s.heap.objs.size f cdv))) :
  XSs (cxOf CX0 P w K mg base N_law_parts "_law_parts" (defScope s_law_parts) f cdv A outer s H E).nox (defBody s_law_parts) (d_law_parts) :=
(xss_cons (xs_set 1 sc_law_parts.nd (c_dict rfl (by rfl) T.z_dict (xa_cons (xe_comp [("at", 10)] rfl sc_law_parts.nd (xi_range1 (by rfl) T.z_range (xa_cons (c_lenA (by rfl) T.z_len (xa_cons (x_ixA hr.units (xv 0) xe_int) xa_nil)) xa_nil)) (blkOk_by (by kernel_rfl)) (fun _ _ _ _ _ => (xcg_name 10 sc_law_parts.nd)) (fun _ _ _ _ _ => xts_nil) (fun _ _ _ _ _ => (xe_tup (xa_cons (x_ixA hr.units (x_ixA hr.units (x_ixA hr.units (xv 0) xe_int) (xv 10)) xe_int) (xa_cons (xv 10) xa_nil))))) xa_nil)))
(xss_cons (xs_setCompT 2 [("body", 11), ("head", 12)] rfl sc_law_parts.nd (xi_seq (x_ixA hr.units (xv 0) xe_int)) (blkOk_by (by kernel_rfl)) (fun _ _ _ _ _ => (xcgs_cons (xcg_name 11 sc_law_parts.nd) (xcgs_cons (xcg_name 12 sc_law_parts.nd) xcgs_nil))) (fun _ _ _ _ _ => xts_nil) (fun _ _ _ _ _ => (x_add (xe_compT [("name", 4), ("terms", 13)] rfl sc_law_parts.nd (xi_seq (xv 11)) (blkOk_by (by kernel_rfl)) (fun _ _ _ _ _ => (xcgs_cons (xcg_name 4 sc_law_parts.nd) (xcgs_cons (xcg_name 13 sc_law_parts.nd) xcgs_nil))) (fun _ _ _ _ _ => xts_nil) (fun _ _ _ _ _ => (xv 4))) (xe_lst (xa_cons (x_ixA hr.units (xv 12) xe_int) xa_nil)))) (sw_true rfl rfl rfl (by decide +kernel)))
(xss_cons (xs_set 2 sc_law_parts.nd (x_add (xv 2) (xe_comp [("triple", 14)] rfl sc_law_parts.nd (xi_seq (x_ixA hr.units (xv 0) xe_int)) (blkOk_by (by kernel_rfl)) (fun _ _ _ _ _ => (xcg_name 14 sc_law_parts.nd)) (fun _ _ _ _ _ => xts_nil) (fun _ _ _ _ _ => (x_add (xe_lst (xa_cons (x_ixA hr.units (xv 14) xe_int) xa_nil)) (xe_compT [("name", 4), ("terms", 13)] rfl sc_law_parts.nd (xi_seq (x_ixA hr.units (xv 14) xe_int)) (blkOk_by (by kernel_rfl)) (fun _ _ _ _ _ => (xcgs_cons (xcg_name 4 sc_law_parts.nd) (xcgs_cons (xcg_name 13 sc_law_parts.nd) xcgs_nil))) (fun _ _ _ _ _ => xts_nil) (fun _ _ _ _ _ => (xv 4))))))))
(xss_cons (xs_for PassesOwn.never rfl (xi_seq (xv 2)) (xg_name 3 sc_law_parts.nd)
(xss_one (xs_for PassesOwn.never rfl (xi_seq (xv 3)) (xg_name 4 sc_law_parts.nd)
(xss_cons (xs_set 5 sc_law_parts.nd (x_ixA hr.units (xv 1) (xv 4)))
(xss_one (xs_for PassesOwn.never rfl (xi_seq (x_ixA hr.units (xv 0) xe_int)) (xg_tup rfl (xgs_cons (xg_name 6 sc_law_parts.nd) (xgs_cons (xg_name 7 sc_law_parts.nd) xgs_nil)))
(xss_one (xs_if (t_eq hr.units (x_ixA hr.units (xv 1) (xv 6)) (xv 5))
(xss_one (xs_asg (x_ixA hr.units (xv 1) (x_ixA hr.units (xv 3) xe_int)) (g_subA hr.units (xv 1) (xv 6))))
xss_nil))))))))
(xss_cons (xs_set 8 sc_law_parts.nd (xe_lst xa_nil))
(xss_cons (xs_for PassesOwn.never rfl (xi_seq (x_ixA hr.units (xv 0) xe_int)) (xg_tup rfl (xgs_cons (xg_name 6 sc_law_parts.nd) (xgs_cons (xg_name 7 sc_law_parts.nd) xgs_nil)))
(xss_cons (xs_set 9 sc_law_parts.nd (c_tuple (by rfl) T.z_tuple (xa_cons (c_sorted hr.units (by rfl) T.z_sorted (xa_cons (xe_compT [("name", 4), ("wide", 15)] rfl sc_law_parts.nd (xi_seq (x_ixA hr.units (xv 0) xe_int)) (blkOk_by (by kernel_rfl)) (fun _ _ _ _ _ => (xcgs_cons (xcg_name 4 sc_law_parts.nd) (xcgs_cons (xcg_name 15 sc_law_parts.nd) xcgs_nil))) (fun _ _ _ _ _ => (xts_one (t_eq hr.units (x_ixA hr.units (xv 1) (xv 4)) (x_ixA hr.units (xv 1) (xv 6))))) (fun _ _ _ _ _ => (xv 4))) xa_nil)) xa_nil)))
(xss_one (xs_if (t_notinP hr (xv 9) (xv 8))
(xss_one (xs_expr (m_append (xv 8) (xa_cons (xv 9) xa_nil))))
xss_nil))))
(xss_one (xs_ret (c_tuple (by rfl) T.z_tuple (xa_cons (c_sorted hr.units (by rfl) T.z_sorted (xa_cons (xv 8) xa_nil)) xa_nil))))))))))
theorem der_law_asks (T : Txt mg) {F_law_levels : DSpec} {F_law_shuffled : DSpec} {F_law_same : DSpec} {F_rules_into : DSpec} {F_level_of : DSpec} {F_house_parts : DSpec} {F_law_parts : DSpec} {F_open_marks : DSpec} {F_law_open : DSpec} (D_law_levels : TDef P w K mg base 1 "_law_levels" s_law_levels ["house"] F_law_levels) (D_law_shuffled : TDef P w K mg base 2 "_law_shuffled" s_law_shuffled ["pool", "things"] F_law_shuffled) (D_law_same : TDef P w K mg base 12 "_law_same" s_law_same ["due", "told"] F_law_same) (D_rules_into : TDef P w K mg base 1 "rules_into" s_rules_into ["house", "table"] F_rules_into) (D_level_of : TDef P w K mg base 2 "level_of" s_level_of ["house", "table"] F_level_of) (D_house_parts : TDef P w K mg base 2 "house_parts" s_house_parts ["house"] F_house_parts) (D_law_parts : TDef P w K mg base 1 "_law_parts" s_law_parts ["house"] F_law_parts) (D_open_marks : TDef P w K mg base 2 "open_marks" s_open_marks ["rule"] F_open_marks) (D_law_open : TDef P w K mg base 2 "_law_open" s_law_open ["rule"] F_law_open) (f : Addr) (cdv : Value) (A : Around) (outer : List PySem.Env) (s : Shared) (H : Hp) (E : XK) (hr : Room 12 (A.deeper (envOfC "_law_asks" (defScope s_law_asks) s.heap.objs.size f cdv))) :
  XSs (cxOf CX0 P w K mg base N_law_asks "_law_asks" (defScope s_law_asks) f cdv A outer s H E).nox (defBody s_law_asks) (d_law_asks F_law_levels F_law_shuffled F_law_same F_rules_into F_level_of F_house_parts F_law_parts F_open_marks F_law_open) :=
(xss_cons (xs_set 2 sc_law_asks.nd (c_def D_law_levels hr (xa_cons (xv 1) xa_nil)))
(xss_cons (xs_for PassesOwn.never rfl (xi_range1 (by rfl) T.z_range (xa_cons xe_int xa_nil)) (xg_name 3 sc_law_asks.nd)
(xss_cons (xs_for PassesOwn.never rfl (xi_seq (xe_if (t_eq hr.units (xv 3) xe_int) (x_ixA hr.units (xv 1) xe_int) (c_tuple (by rfl) T.z_tuple (xa_cons (c_def D_law_shuffled hr (xa_cons (xv 0) (xa_cons (x_ixA hr.units (xv 1) xe_int) xa_nil))) xa_nil)))) (xg_tup rfl (xgs_cons (xg_name 4 sc_law_asks.nd) (xgs_cons (xg_name 5 sc_law_asks.nd) xgs_nil)))
(xss_cons (xs_set 6 sc_law_asks.nd (c_tuple (by rfl) T.z_tuple (xa_cons (xe_comp [("at", 8)] rfl sc_law_asks.nd (xi_range1 (by rfl) T.z_range (xa_cons (c_lenA (by rfl) T.z_len (xa_cons (x_ixA hr.units (xv 1) xe_int) xa_nil)) xa_nil)) (blkOk_by (by kernel_rfl)) (fun _ _ _ _ _ => (xcg_name 8 sc_law_asks.nd)) (fun _ _ _ _ _ => (xts_one (t_eq hr.units (x_ixA hr.units (x_ixA hr.units (x_ixA hr.units (x_ixA hr.units (xv 1) xe_int) (xv 8)) xe_int) xe_int) (xv 4)))) (fun _ _ _ _ _ => (xv 8))) xa_nil)))
(xss_one (xs_if (XW.xt (xw_or (xt_not (xt_val (c_def D_law_same hr (xa_cons (xv 6) (xa_cons (c_def D_rules_into hr (xa_cons (xv 1) (xa_cons (xv 4) xa_nil))) xa_nil))))) (xw_or1 (xt_not (xt_val (c_def D_law_same hr (xa_cons (x_ixA hr.units (xv 2) (xv 4)) (xa_cons (c_def D_level_of hr (xa_cons (xv 1) (xa_cons (xv 4) xa_nil))) xa_nil))))))))
(xss_one (xs_ret xe_bl))
xss_nil))))
(xss_one (xs_if (xt_not (xt_val (c_def D_law_same hr (xa_cons (c_def D_law_parts hr (xa_cons (xv 1) xa_nil)) (xa_cons (c_def D_house_parts hr (xa_cons (xv 1) xa_nil)) xa_nil)))))
(xss_one (xs_ret xe_bl))
xss_nil))))
(xss_cons (xs_for PassesOwn.never rfl (xi_seq (x_ixA hr.units (xv 1) xe_int)) (xg_name 7 sc_law_asks.nd)
(xss_one (xs_if (xt_not (xt_val (c_def D_law_same hr (xa_cons (c_tuple (by rfl) T.z_tuple (xa_cons (c_def D_law_open hr (xa_cons (xv 7) xa_nil)) xa_nil)) (xa_cons (c_def D_open_marks hr (xa_cons (xv 7) xa_nil)) xa_nil)))))
(xss_one (xs_ret xe_bl))
xss_nil)))
(xss_one (xs_ret xe_bl)))))
theorem der_law_ladder (T : Txt mg) {F_law_pick : DSpec} {F_law_names : DSpec} {F_law_row : DSpec} {F_law_shuffled : DSpec} (D_law_pick : TDef P w K mg base 1 "_law_pick" s_law_pick ["pool", "many"] F_law_pick) (D_law_names : TDef P w K mg base 2 "_law_names" s_law_names ["pool", "many", "taken"] F_law_names) (D_law_row : TDef P w K mg base 2 "_law_row" s_law_row ["pool", "table", "marks"] F_law_row) (D_law_shuffled : TDef P w K mg base 2 "_law_shuffled" s_law_shuffled ["pool", "things"] F_law_shuffled) (f : Addr) (cdv : Value) (A : Around) (outer : List PySem.Env) (s : Shared) (H : Hp) (E : XK) (hr : Room 2 (A.deeper (envOfC "_law_ladder" (defScope s_law_ladder) s.heap.objs.size f cdv))) :
  XSs (cxOf CX0 P w K mg base N_law_ladder "_law_ladder" (defScope s_law_ladder) f cdv A outer s H E).nox (defBody s_law_ladder) (d_law_ladder F_law_pick F_law_names F_law_row F_law_shuffled) :=
(xss_cons (xs_set 1 sc_law_ladder.nd (x_add xe_int (c_def D_law_pick hr (xa_cons (xv 0) (xa_cons xe_int xa_nil)))))
(xss_cons (xs_set 2 sc_law_ladder.nd (c_def D_law_names hr (xa_cons (xv 0) (xa_cons (xv 1) (xa_cons xe_dict0 xa_nil)))))
(xss_cons (xs_set 3 sc_law_ladder.nd (c_tuple (by rfl) T.z_tuple (xa_cons (xe_comp [("name", 11)] rfl sc_law_ladder.nd (xi_seq (xv 2)) (blkOk_by (by kernel_rfl)) (fun _ _ _ _ _ => (xcg_name 11 sc_law_ladder.nd)) (fun _ _ _ _ _ => xts_nil) (fun _ _ _ _ _ => (xe_tup (xa_cons (xv 11) (xa_cons (x_add xe_int (c_def D_law_pick hr (xa_cons (xv 0) (xa_cons xe_int xa_nil)))) xa_nil))))) xa_nil)))
(xss_cons (xs_set 4 sc_law_ladder.nd (xe_lst xa_nil))
(xss_cons (xs_for PassesOwn.never rfl (xi_range1 (by rfl) T.z_range (xa_cons (x_sub (xv 1) xe_int) xa_nil)) (xg_name 5 sc_law_ladder.nd)
(xss_cons (xs_set 6 sc_law_ladder.nd (c_def D_law_names hr (xa_cons (xv 0) (xa_cons xe_int (xa_cons xe_dict0 xa_nil)))))
(xss_cons (xs_set 7 sc_law_ladder.nd (xe_tup (xa_cons (c_def D_law_row hr (xa_cons (xv 0) (xa_cons (x_ixA hr.units (xv 3) (xv 5)) (xa_cons (xv 6) xa_nil)))) xa_nil)))
(xss_cons (xs_if (XW.xt (xw_and (t_eq hr.units (c_def D_law_pick hr (xa_cons (xv 0) (xa_cons xe_int xa_nil))) xe_int) (xw_and1 (t_lt (c_lenA (by rfl) T.z_len (xa_cons (xv 4) xa_nil)) xe_int))))
(xss_one (xs_set 7 sc_law_ladder.nd (c_def D_law_shuffled hr (xa_cons (xv 0) (xa_cons (x_add (xe_lst (xa_cons (x_ixA hr.units (xv 7) xe_int) xa_nil)) (xe_comp [("lap", 9)] rfl sc_law_ladder.nd (xi_range1 (by rfl) T.z_range (xa_cons xe_int xa_nil)) (blkOk_by (by kernel_rfl)) (fun _ _ _ _ _ => (xcg_name 9 sc_law_ladder.nd)) (fun _ _ _ _ _ => xts_nil) (fun _ _ _ _ _ => (c_def D_law_row hr (xa_cons (xv 0) (xa_cons (x_ixA hr.units (xv 3) (c_def D_law_pick hr (xa_cons (xv 0) (xa_cons (x_add (xv 5) xe_int) xa_nil)))) (xa_cons (xv 6) xa_nil))))))) xa_nil)))))
xss_nil)
(xss_one (xs_expr (m_append (xv 4) (xa_cons (xe_tup (xa_cons (c_tuple (by rfl) T.z_tuple (xa_cons (xv 7) xa_nil)) (xa_cons (c_def D_law_row hr (xa_cons (xv 0) (xa_cons (x_ixA hr.units (xv 3) (x_add (xv 5) xe_int)) (xa_cons (xv 6) xa_nil)))) xa_nil))) xa_nil))))))))
(xss_cons (xs_set 8 sc_law_ladder.nd (c_def D_law_pick hr (xa_cons (xv 0) (xa_cons (x_sub xe_int (c_lenA (by rfl) T.z_len (xa_cons (xv 4) xa_nil))) xa_nil))))
(xss_cons (xs_for PassesOwn.never rfl (xi_range1 (by rfl) T.z_range (xa_cons (xv 8) xa_nil)) (xg_name 9 sc_law_ladder.nd)
(xss_cons (xs_set 10 sc_law_ladder.nd (c_def D_law_pick hr (xa_cons (xv 0) (xa_cons (x_sub (xv 1) xe_int) xa_nil))))
(xss_cons (xs_set 6 sc_law_ladder.nd (c_def D_law_names hr (xa_cons (xv 0) (xa_cons xe_int (xa_cons xe_dict0 xa_nil)))))
(xss_one (xs_expr (m_append (xv 4) (xa_cons (xe_tup (xa_cons (xe_tup (xa_cons (c_def D_law_row hr (xa_cons (xv 0) (xa_cons (x_ixA hr.units (xv 3) (xv 10)) (xa_cons (xv 6) xa_nil)))) xa_nil)) (xa_cons (c_def D_law_row hr (xa_cons (xv 0) (xa_cons (x_ixA hr.units (xv 3) (x_add (x_add (xv 10) xe_int) (c_def D_law_pick hr (xa_cons (xv 0) (xa_cons (x_sub (x_sub (xv 1) (xv 10)) xe_int) xa_nil))))) (xa_cons (xv 6) xa_nil)))) xa_nil))) xa_nil)))))))
(xss_one (xs_ret (xe_tup (xa_cons (xv 3) (xa_cons (xv 4) (xa_cons (xv 2) xa_nil)))))))))))))
theorem der_law (T : Txt mg) {F_law_pool : DSpec} {F_law_ladder : DSpec} {F_law_shuffled : DSpec} {F_law_same : DSpec} {F_level_of : DSpec} {F_house_parts : DSpec} {F_law_asks : DSpec} {F_law_pick : DSpec} {F_law_house : DSpec} (D_law_pool : TDef P w K mg base 1 "_law_pool" s_law_pool ["script"] F_law_pool) (D_law_ladder : TDef P w K mg base 3 "_law_ladder" s_law_ladder ["pool"] F_law_ladder) (D_law_shuffled : TDef P w K mg base 2 "_law_shuffled" s_law_shuffled ["pool", "things"] F_law_shuffled) (D_law_same : TDef P w K mg base 12 "_law_same" s_law_same ["due", "told"] F_law_same) (D_level_of : TDef P w K mg base 2 "level_of" s_level_of ["house", "table"] F_level_of) (D_house_parts : TDef P w K mg base 2 "house_parts" s_house_parts ["house"] F_house_parts) (D_law_asks : TDef P w K mg base 13 "_law_asks" s_law_asks ["pool", "house"] F_law_asks) (D_law_pick : TDef P w K mg base 1 "_law_pick" s_law_pick ["pool", "many"] F_law_pick) (D_law_house : TDef P w K mg base 4 "_law_house" s_law_house ["pool", "most", "rules", "ties", "doors", "triples"] F_law_house) (f : Addr) (cdv : Value) (A : Around) (outer : List PySem.Env) (s : Shared) (H : Hp) (E : XK) (hr : Room 13 (A.deeper (envOfC "law" (defScope s_law) s.heap.objs.size f cdv))) :
  XSs (cxOf CX0 P w K mg base N_law "law" (defScope s_law) f cdv A outer s H E).nox (defBody s_law) (d_law F_law_pool F_law_ladder F_law_shuffled F_law_same F_level_of F_house_parts F_law_asks F_law_pick F_law_house) :=
(xss_cons (xs_set 1 sc_law.nd (c_def D_law_pool hr (xa_cons (xv 0) xa_nil)))
(xss_cons (xs_asg (c_def D_law_ladder hr (xa_cons (xv 1) xa_nil)) (xg_tup rfl (xgs_cons (xg_name 2 sc_law.nd) (xgs_cons (xg_name 3 sc_law.nd) (xgs_cons (xg_name 4 sc_law.nd) xgs_nil)))))
(xss_cons (xs_set 5 sc_law.nd (xe_tup (xa_cons (xv 2) (xa_cons (xe_tup xa_nil) (xa_cons (xe_tup xa_nil) (xa_cons (c_tuple (by rfl) T.z_tuple (xa_cons (c_def D_law_shuffled hr (xa_cons (xv 1) (xa_cons (xv 3) xa_nil))) xa_nil)) (xa_cons (xe_tup xa_nil) (xa_cons (xe_tup xa_nil) xa_nil))))))))
(xss_cons (xs_for PassesOwn.never rfl (xi_range1 (by rfl) T.z_range (xa_cons (c_lenA (by rfl) T.z_len (xa_cons (xv 4) xa_nil)) xa_nil)) (xg_name 6 sc_law.nd)
(xss_one (xs_if (xt_not (xt_val (c_def D_law_same hr (xa_cons (xv 6) (xa_cons (c_def D_level_of hr (xa_cons (xv 5) (xa_cons (x_ixA hr.units (xv 4) (xv 6)) xa_nil))) xa_nil)))))
(xss_one (xs_ret xe_bl))
xss_nil)))
(xss_cons (xs_if (XW.xt (xw_or (xt_not (xt_val (c_def D_law_same hr (xa_cons (xe_tup (xa_cons (c_tuple (by rfl) T.z_tuple (xa_cons (c_sorted hr.units (by rfl) T.z_sorted (xa_cons (xv 4) xa_nil)) xa_nil)) xa_nil)) (xa_cons (c_def D_house_parts hr (xa_cons (xv 5) xa_nil)) xa_nil))))) (xw_or1 (xt_not (xt_val (c_def D_law_asks hr (xa_cons (xv 1) (xa_cons (xv 5) xa_nil))))))))
(xss_one (xs_ret xe_bl))
xss_nil)
(xss_cons (xs_set 7 sc_law.nd (c_def D_law_pick hr (xa_cons (xv 1) (xa_cons (x_sub (c_lenA (by rfl) T.z_len (xa_cons (xv 4) xa_nil)) xe_int) xa_nil))))
(xss_cons (xs_setComp 8 [("rule", 12)] rfl sc_law.nd (xi_seq (x_slice (xv 3) xo_none (xo_some (x_sub (c_lenA (by rfl) T.z_len (xa_cons (xv 4) xa_nil)) xe_int)))) (blkOk_by (by kernel_rfl)) (fun _ _ _ _ _ => (xcg_name 12 sc_law.nd)) (fun _ _ _ _ _ => (xts_one (XW.xt (xw_and (t_eq hr.units (c_lenA (by rfl) T.z_len (xa_cons (x_ixA hr.units (xv 12) xe_int) xa_nil)) xe_int) (xw_and1 (t_ne hr.units (x_ixA hr.units (x_ixA hr.units (xv 12) xe_int) xe_int) (x_ixA hr.units (xv 4) (x_add (xv 7) xe_int)))))))) (fun _ _ _ _ _ => (xv 12)) (sw_true rfl rfl rfl (by decide +kernel)))
(xss_cons (xs_set 9 sc_law.nd (xe_tup (xa_cons (xv 2) (xa_cons (xe_tup (xa_cons xe_int (xa_cons xe_int xa_nil))) (xa_cons (xe_tup xa_nil) (xa_cons (c_tuple (by rfl) T.z_tuple (xa_cons (c_def D_law_shuffled hr (xa_cons (xv 1) (xa_cons (xv 8) xa_nil))) xa_nil)) (xa_cons (xe_tup xa_nil) (xa_cons (xe_tup xa_nil) xa_nil))))))))
(xss_cons (xs_if (XW.xt (xw_or (xt_not (xt_val (c_def D_law_asks hr (xa_cons (xv 1) (xa_cons (xv 9) xa_nil))))) (xw_or (xt_not (xt_val (c_def D_law_same hr (xa_cons xe_int (xa_cons (c_def D_level_of hr (xa_cons (xv 9) (xa_cons (x_ixA hr.units (xv 4) (x_add (xv 7) xe_int)) xa_nil))) xa_nil))))) (xw_or1 (t_lt (c_lenA (by rfl) T.z_len (xa_cons (c_def D_house_parts hr (xa_cons (xv 9) xa_nil)) xa_nil)) xe_int)))))
(xss_one (xs_ret xe_bl))
xss_nil)
(xss_cons (xs_for PassesOwn.never rfl (xi_range1 (by rfl) T.z_range (xa_cons xe_int xa_nil)) (xg_name 10 sc_law.nd)
(xss_one (xs_if (xt_not (xt_val (c_def D_law_asks hr (xa_cons (xv 1) (xa_cons (c_def D_law_house hr (xa_cons (xv 1) (xa_cons xe_int (xa_cons xe_int (xa_cons xe_int (xa_cons xe_int (xa_cons xe_int xa_nil))))))) xa_nil)))))
(xss_one (xs_ret xe_bl))
xss_nil)))
(xss_cons (xs_set 11 sc_law.nd (c_def D_law_asks hr (xa_cons (xv 1) (xa_cons (xe_tup (xa_cons (x_slice (xv 2) xo_none (xo_some xe_int)) (xa_cons (xe_tup xa_nil) (xa_cons (xe_tup xa_nil) (xa_cons (xe_tup xa_nil) (xa_cons (xe_tup xa_nil) (xa_cons (xe_tup xa_nil) xa_nil))))))) xa_nil))))
(xss_one (xs_ret (xe_and (xv 11) (xe_one (c_def D_law_same hr (xa_cons (xe_tup (xa_cons (xe_tup (xa_cons (x_ixA hr.units (xv 4) xe_int) xa_nil)) xa_nil)) (xa_cons (c_def D_house_parts hr (xa_cons (xe_tup (xa_cons (x_slice (xv 2) xo_none (xo_some xe_int)) (xa_cons (xe_tup xa_nil) (xa_cons (xe_tup xa_nil) (xa_cons (xe_tup xa_nil) (xa_cons (xe_tup xa_nil) (xa_cons (xe_tup xa_nil) xa_nil))))))) xa_nil)) xa_nil))))))))))))))))))
end
end K09

namespace K09
open PySem PySem.Spec PyProof.Rows L2 TL DL
local macro_rules | `(tactic| walk_at "dl") => `(tactic| try simp (config := { decide := false }) only [e_seq, e_asg, e_nm, e_op, e_un, e_cb, e_c, e_var, e_ifs, e_tru, e_B, e_drop, e_bm, e_bm0, e_ret, e_retN, e_next, e_break, e_cont, e_nil, e_cons, e_tup, e_lst, e_sl, e_onone, e_osome, e_gsub, e_call, e_callk, e_and, e_or, e_not, e_andv, e_orv, e_notv, e_if, e_par, e_for, e_comp, e_iseq, e_rng1, e_yes, e_gtp, e_gc, e_gn0,
  e_addI, e_addS, e_addT, e_addL, e_i20, e_i2, e_neg, e_cmpI, e_cmpS, e_eqI, e_eqS, e_eqB, e_ixT, e_ixLit, e_ixL, e_ixS, e_set, e_ixAT, e_ixALit, e_ixAL, e_ixAS, e_ixAD, e_setAL, e_setAD, e_dict0, e_inAL, e_inAT, e_inAD, e_inAS, e_listAT, e_listALit, e_listAL, e_listAD, e_max2, e_extend, e_isalpha, e_enum, keyW, sz0, sz1, sz2, sz3, sz4, sz5, sz6, O.dk.injEq, e_slT, e_slLit, e_slS, e_slL, e_lenAS, e_lenAT, e_lenALit, e_lenAL, e_lenAD, e_lenS, e_lenT, e_lenLit, e_lenL, e_i1, e_intI, e_intB, e_strI, e_strS, e_listT, e_listLit, e_listL, e_tupleT, e_tupleL, e_append, e_pop0, e_tyL, e_tyS, e_truL, e_truT, e_truB, e_truI, e_truS, e_truN, e_seqT, e_seqLit, e_seqL, e_in, e_inT, e_isi, kit_ll, kit_ss, tyW_L, tyW_S, tyW_T, tyW_I, tyW_B, cut_to1, cut_to2, cut_from1, wipeW_nil, wipeW_cons, Nat.reduceAdd, eq_self, List.map_cons, List.map_nil,
  atI_0, atI_1, atI_2, atI_3, atI_end, ixN_0, ixN_1, ixN_11, ixN_last, List.map_append, List.map_cons, List.map_nil, get_app, get_app0, set_app, set_app0, List.cons_append, List.nil_append, List.append_assoc, List.length_append, List.length_cons, List.length_nil, Nat.zero_add, List.length_map, List.length_set,
  List.getElem?_cons_zero, List.getElem?_cons_succ, List.set_cons_zero, List.set_cons_succ, Option.some.injEq, exists_eq_left', exists_eq_left, exists_and_left, W.int.injEq, W.bl.injEq, W.str.injEq, W.tup.injEq, W.ref.injEq, O.lst.injEq, List.cons.injEq, reduceCtorEq, false_and, exists_false, or_false, false_or, true_and, and_true, decide_eq_true_eq, Bool.false_xor, Bool.true_xor, Bool.not_eq_true', decide_eq_false_iff_not, List.isEmpty_cons, List.isEmpty_nil, Bool.not_true, Bool.not_false, if_true, if_false, not_true_eq_false, not_false_eq_true, ne_eq, Bool.false_eq_true, reduceIte])

structure Good (st : Dr) : Prop where
  cells : ∀ c ∈ st.cells, 0 ≤ c
  len : st.cells.length ≤ 100
  s0 : 0 ≤ st.seed
  s1 : st.seed < 2305843009213693952
/-! ### _law_pick -/
def F_pick : DSpec := fun ws S Q => ∃ st R many, ws = [.ref 1, .int many] ∧ S = B st R ∧ Good st ∧ 0 < many ∧ many < 18446744073709551616 ∧ ∀ st' r, Good st' → 0 ≤ r → r < many → Q (.int r) (B st' R)
theorem vc_pick : ∀ ws S Q, Closed S → F_pick ws S Q → d_law_pick (endsW S.length Q) (startW N_law_pick.length ws) S := by
  rintro ws S Q cl ⟨st, R, many, rfl, rfl, g, hm, hl, q⟩
  show d_law_pick _ [some (.ref 1), some (.int many), none, none, none] _
  unfold d_law_pick
  have m1 : ∀ x : Int, 0 ≤ x % many := fun x => Int.emod_nonneg _ (by omega)
  have m2 : ∀ x : Int, x % many < many := fun x => Int.emod_lt_of_pos _ hm
  obtain ⟨cells, seed⟩ := st
  have s0 : 0 ≤ seed := g.s0
  have s1 : seed < 2305843009213693952 := g.s1
  cases cells with
  | nil =>
    walk_at "dl"
    refine ⟨.inl (.inl ⟨by omega, by omega⟩), by decide, ⟨by decide, by decide⟩, .inl (.inl ⟨by omega, by omega⟩), by decide, hm, ?_⟩
    have w0 : 0 ≤ (seed * 69621 + 5413) % 2147483629 := Int.emod_nonneg _ (by decide)
    have w1 : (seed * 69621 + 5413) % 2147483629 < 2147483629 := Int.emod_lt_of_pos _ (by decide)
    exact endB (st' := ⟨[], _⟩) cl rfl (q ⟨[], _⟩ _ ⟨(by intro _ h; cases h), Nat.zero_le _, w0, by show _ % _ < _; omega⟩ (m1 _) (m2 _))
  | cons c pre =>
    have c0 : 0 ≤ c := g.cells c (by simp)
    have gl : pre.length ≤ 99 := by have := g.len; simp at this; omega
    have gc : ∀ x ∈ pre, 0 ≤ x := fun x hx => g.cells x (by simp [hx])
    walk_at "dl"
    refine ⟨wide_div hm (b := 64) (by omega) (by decide) (by decide), ?_⟩
    split
    · refine pop1_ok (j := 0) rfl rfl rfl (by simp; omega) ?_
      exact ⟨hm, endB (st' := ⟨pre, seed⟩) cl rfl (q ⟨pre, seed⟩ _ ⟨gc, by show pre.length ≤ 100; omega, s0, s1⟩ (m1 _) (m2 _))⟩
    · refine ⟨hm, endB (st' := ⟨c / many :: pre, seed⟩) cl rfl (q ⟨c / many :: pre, seed⟩ _ ⟨fun x hx => ?_, by show (_ :: pre).length ≤ 100; rw [List.length_cons]; omega, s0, s1⟩ (m1 _) (m2 _))⟩
      rcases List.mem_cons.mp hx with rfl | h
      · exact Int.ediv_nonneg c0 (by omega)
      · exact gc x h
theorem pick_ok {st : Dr} {R : Sto} {many : Int} {Q : WK} (g : Good st) (h0 : 0 < many) (h1 : many < 18446744073709551616) (k : ∀ st' r, Good st' → 0 ≤ r → r < many → Q (.int r) (B st' R)) : F_pick [.ref 1, .int many] (B st R) Q :=
  ⟨st, R, many, rfl, rfl, g, h0, h1, k⟩
/-! ### _law_pool -/
def F_pool : DSpec := fun ws S Q => ∃ ns : List Int, ws = [.lit (ns.map W.int)] ∧ S = [] ∧ ns.length ≤ 63 ∧ ∀ st, Good st → Q (.ref 1) (B st [])
theorem cp18 : CPow 10 18 := ⟨by decide, by decide, by decide⟩
theorem vc_pool : ∀ ws S Q, Closed S → F_pool ws S Q → d_law_pool (endsW S.length Q) (startW N_law_pool.length ws) S := by
  rintro ws S Q cl ⟨ns, rfl, rfl, hl, q⟩
  show d_law_pool _ [some _, none, none, none, none, none] _
  unfold d_law_pool
  walk_at "dl"
  rw [show (63 : Int) = ((63 : Nat) : Int) from rfl, cut_to, List.take_of_length_le (by rw [List.length_map]; exact hl)]
  refine forW_inv (fun i env S' => ∃ cells mixed x3 x4 x5, env = [some (.lit (ns.map W.int)), some (.ref 0), some (.int mixed), x3, x4, x5] ∧ S' = [.lst (cells.map W.int), .lst (ns.map W.int)] ∧ (∀ z ∈ cells, (0 : Int) ≤ z) ∧ cells.length ≤ i ∧ 0 ≤ mixed ∧ mixed < 2147483629)
    ⟨[], 9, _, _, _, rfl, rfl, (by intro z h; cases h), Nat.le_refl _, by decide, by decide⟩ ?_ ?_
  · rintro i x env S' hx ⟨cells, mixed, x3, x4, x5, rfl, rfl, hz, hlen, s0, s1⟩ N hN
    obtain ⟨n, hn, rfl, _, hi⟩ := map_get hx
    refine ⟨rfl, ?_⟩
    have step : ∀ (cs : List Int) (m : Int), (∀ z ∈ cs, (0 : Int) ≤ z) → cs.length ≤ i + 1 → (0 : Int) < 1000003 ∧ (CMul 3 (m % 1000003) ∨ CMulW 3 (m % 1000003)) ∧
        (CMul (mixed + m % 1000003 + 27077) (mixed + 3 * (m % 1000003) + 5413) ∨ CMulW (mixed + m % 1000003 + 27077) (mixed + 3 * (m % 1000003) + 5413)) ∧ (0 : Int) < 2147483629 ∧
        N [some (.lit (ns.map W.int)), some (.ref 0), some (.int ((mixed + m % 1000003 + 27077) * (mixed + 3 * (m % 1000003) + 5413) % 2147483629)), some (.int n), some (.int m), some (.int (m % 1000003))] [.lst (cs.map W.int), .lst (ns.map W.int)] := by
      intro cs m h1 h2
      have a0 := Int.emod_nonneg m (b := 1000003) (by decide)
      have a1 := Int.emod_lt_of_pos m (b := 1000003) (by decide)
      refine ⟨by decide, .inl (.inl ⟨by decide, by decide⟩), .inl (.inl ⟨by omega, by omega⟩), by decide, hN _ _ ⟨cs, _, _, _, _, rfl, rfl, h1, h2, Int.emod_nonneg _ (by decide), Int.emod_lt_of_pos _ (by decide)⟩⟩
    have stepA : ∀ m : Int, 0 ≤ m → cells.length < sizeLine ∧ (0 : Int) < 1000003 ∧ (CMul 3 (m % 1000003) ∨ CMulW 3 (m % 1000003)) ∧
        (CMul (mixed + m % 1000003 + 27077) (mixed + 3 * (m % 1000003) + 5413) ∨ CMulW (mixed + m % 1000003 + 27077) (mixed + 3 * (m % 1000003) + 5413)) ∧ (0 : Int) < 2147483629 ∧
        N [some (.lit (ns.map W.int)), some (.ref 0), some (.int ((mixed + m % 1000003 + 27077) * (mixed + 3 * (m % 1000003) + 5413) % 2147483629)), some (.int n), some (.int m), some (.int (m % 1000003))] [.lst (cells.map W.int ++ [.int m]), .lst (ns.map W.int)] := by
      intro m hm
      refine ⟨lt_sz (by omega), ?_⟩
      have e : cells.map W.int ++ [W.int m] = (cells ++ [m]).map W.int := by rw [List.map_append]; rfl
      rw [e]
      refine step (cells ++ [m]) m (fun z hzz => ?_) (by simp; omega)
      rcases List.mem_append.mp hzz with h | h
      · exact hz z h
      · rw [List.mem_singleton.mp h]
        exact hm
    walk_at "dl"
    split
    · refine ⟨cp18, ?_⟩
      split
      · exact stepA n (by omega)
      · exact step cells n hz (by omega)
    · refine ⟨.inl (.inl ⟨by decide, by decide⟩), cp18, ?_⟩
      split
      · exact stepA _ (by omega)
      · exact step cells _ hz (by omega)
  · rintro env S' ⟨cells, mixed, x3, x4, x5, rfl, rfl, hz, hlen, s0, s1⟩
    rw [List.length_map] at hlen
    refine ⟨rfl, ?_⟩
    walk_at "dl"
    refine ⟨.inl (.inl ⟨by omega, by omega⟩), by decide, ?_⟩
    generalize hw : mixed * (mixed + 27077) % 2147483629 = sd
    have w0 : 0 ≤ sd := by rw [← hw]; exact Int.emod_nonneg _ (by decide)
    have w1 : sd < 2147483629 := by rw [← hw]; exact Int.emod_lt_of_pos _ (by decide)
    have good : Good ⟨cells, sd⟩ := ⟨hz, by show cells.length ≤ 100; omega, w0, by show sd < _; omega⟩
    refine ⟨[0, 2], B ⟨cells, sd⟩ [], .ref 1, rfl, fun i h => absurd h (Nat.not_lt_zero _), by decide, ?_, rfl, rfl, q _ good⟩
    intro i o ho
    match i, ho with
    | 0, ho =>
      cases Option.some.inj ho
      refine ⟨bndL_ints _ _, 0, rfl, ?_⟩
      show _ = some (O.lst (W.renL _ _))
      rw [renL_pure _ _ (pureL_ints _)]
      rfl
    | 1, ho =>
      cases Option.some.inj ho
      exact ⟨rfl, 2, rfl, rfl⟩
    | k + 2, ho => cases ho
/-! ### _law_shuffled -/
theorem perm_erase {α : Type} : ∀ {l : List α} {i : Nat} {y : α}, l[i]? = some y → (y :: l.eraseIdx i).Perm l
  | [], i, y, h => by cases h
  | x :: l, 0, y, h => by
    cases Option.some.inj h
    exact List.Perm.refl _
  | x :: l, i + 1, y, h => by
    have ih := perm_erase (l := l) (i := i) (y := y) h
    exact (List.Perm.swap x y _).trans (ih.cons x)
def SeqR (R : Sto) (w : DL.W) (us : List DL.W) : Prop := w = .tup us ∨ ∃ j, w = .ref (j + 1 + 1) ∧ R[j]? = some (.lst us)
def F_shuf : DSpec := fun ws S Q => ∃ st R w us, ws = [.ref 1, w] ∧ S = B st R ∧ Good st ∧ SeqR R w us ∧ W.pureL us = true ∧ us.length ≤ 1000 ∧ ∀ st' vs, Good st' → vs.Perm us → Q (.ref (R.length + 1 + 1)) (B st' (R ++ [.lst vs]))
theorem vc_shuf : ∀ ws S Q, Closed S → F_shuf ws S Q → d_law_shuffled F_pick (endsW S.length Q) (startW N_law_shuffled.length ws) S := by
  rintro ws S Q cl ⟨st, R, w, us, rfl, rfl, g, hs, hp, hl, q⟩
  show d_law_shuffled F_pick _ [some (.ref 1), some w, none, none] _
  unfold d_law_shuffled
  have main : ∀ still : Sto → Prop, (∀ st' rest, still (B st' (R ++ [.lst rest]))) → compW (gNm 3) dYes
      (dBM "list" vPop1 (dVar 2) (aCons (dCall F_pick (aCons (dVar 0) (aCons (dCB vLenA (aCons (dVar 2) aNil)) aNil))) aNil)) [3] still [some (.ref 1), some w, some (.ref (R.length + 1 + 1)), none] (Ends0 (R.length + 1 + 1) Q) us [] (B st (R ++ [.lst us])) := by
    intro still hst
    refine compW_inv (fun i acc S' => ∃ st rest, S' = B st (R ++ [.lst rest]) ∧ Good st ∧ (acc ++ rest).Perm us ∧ rest.length + i = us.length) ⟨st, us, rfl, g, List.Perm.refl _, rfl⟩ ?_ ?_
    · rintro i x acc S' hx ⟨st2, rest, rfl, g2, hperm, hlen⟩ N hN
      have hi : i < us.length := (List.getElem?_eq_some_iff.mp hx).1
      refine ⟨hst _ _, ?_⟩
      walk_at "dl"
      refine pick_ok (many := (rest.length : Int)) g2 (by omega) (by omega) fun st3 r g3 r0 r1 => ?_
      have hr : r.toNat < rest.length := by omega
      refine pop1_ok (j := r.toNat) (zs := rest) (y := rest[r.toNat]) (by simp) (by omega) (List.getElem?_eq_getElem hr) (by omega) ?_
      have hacc : acc.length ≤ us.length := by
        rw [← hperm.length_eq, List.length_append]
        omega
      refine ⟨lt_sz (by omega), ?_⟩
      walk_at "dl"
      refine hN _ _ ⟨st3, rest.eraseIdx r.toNat, rfl, g3, ?_, ?_⟩
      · rw [List.append_assoc]
        refine List.Perm.trans (List.Perm.append_left acc ?_) hperm
        exact perm_erase (List.getElem?_eq_getElem hr)
      · rw [List.length_eraseIdx_of_lt hr]
        omega
    · rintro acc S' ⟨st2, rest, rfl, g2, hperm, hlen⟩
      have e0 : rest = [] := List.eq_nil_of_length_eq_zero (by omega)
      subst e0
      rw [List.append_nil] at hperm
      refine ⟨hst _ _, ?_⟩
      have hpa : W.pureL acc = true := by
        rw [pureL_all] at hp ⊢
        rw [List.all_eq_true] at hp ⊢
        exact fun x hx => hp x (hperm.mem_iff.mp hx)
      have z := Ends0.last (n := R.length + 1 + 1) (Q := Q) (S := B st2 R) (T := [.lst [], .lst acc]) (k := 1) (ws := acc) (Nat.le_refl _) (closed_B cl) rfl hpa (q st2 acc g2 hperm)
      have e1 : (B st2 R).length + 1 = (B st2 (R ++ [O.lst []])).length := by simp
      have e2 : B st2 R ++ [O.lst [], O.lst acc] = B st2 (R ++ [O.lst []]) ++ [O.lst acc] := by simp
      rw [e1, e2] at z
      exact z
  rcases hs with rfl | ⟨j, rfl, hj⟩
  · walk_at "dl"
    exact main _ fun _ _ => trivial
  · have hjl : j < R.length := (List.getElem?_eq_some_iff.mp hj).1
    have hj2 : ∀ st' rest, (B st' (R ++ [O.lst rest]))[j + 1 + 1]? = some (.lst us) := fun st' rest => by
      show (R ++ [O.lst rest])[j]? = _
      rw [List.getElem?_append_left hjl]
      exact hj
    walk_at "dl"
    rw [e_listAL (i := j + 1 + 1) (ws := us) hj]
    have e2 : B st R ++ [O.lst us] = B st (R ++ [O.lst us]) := by simp
    rw [e2, e_seqL (hj2 st us)]
    exact main _ fun st' rest => hj2 st' rest
theorem shuf_ok {st : Dr} {R : Sto} {w : DL.W} {us : List DL.W} {Q : WK} (g : Good st) (hs : SeqR R w us) (hp : W.pureL us = true) (hl : us.length ≤ 1000) (k : ∀ st' vs, Good st' → vs.Perm us → Q (.ref (R.length + 1 + 1)) (B st' (R ++ [.lst vs]))) : F_shuf [.ref 1, w] (B st R) Q :=
  ⟨st, R, w, us, rfl, rfl, g, hs, hp, hl, k⟩
end K09

/-! K09M: candidates for names; plain Lean. -/
namespace K09
open PySem L2 TL
theorem digits_no : ∀ d : Nat, d < 10 → Unicode.isAlpha (48 + d) = false := by decide +kernel
theorem nodup_le {α : Type} [DecidableEq α] : ∀ (l m : List α), l.Nodup → (∀ x ∈ l, x ∈ m) → l.length ≤ m.length
  | [], m, _, _ => Nat.zero_le _
  | x :: l, m, hn, hs => by
    have hx : x ∈ m := hs x (List.mem_cons_self ..)
    have hn' := List.nodup_cons.mp hn
    have ih := nodup_le l (m.erase x) hn'.2 fun y hy => by
      have hne : y ≠ x := fun e => hn'.1 (e ▸ hy)
      exact (List.mem_erase_of_ne hne).mpr (hs y (List.mem_cons_of_mem _ hy))
    rw [List.length_erase_of_mem hx] at ih
    have : 0 < m.length := List.length_pos_of_mem hx
    rw [List.length_cons]
    omega
theorem pigeon {α : Type} [DecidableEq α] {c : Nat → α} {n : Nat} {l : List α} (inj : ∀ a b, c a = c b → a = b) (hl : l.length ≤ n) (h : ∀ b, b < n → c b ∈ l) : c n ∉ l := fun hm => by
  have z := nodup_le ((List.range (n + 1)).map c) l (List.pairwise_map.mpr (List.Pairwise.imp (fun {a b} (hab : a ≠ b) e => hab (inj a b e)) (List.nodup_range (n := n + 1)))) fun x hx => by
      obtain ⟨b, hb, rfl⟩ := List.mem_map.mp hx
      have hb2 := List.mem_range.mp hb
      by_cases e : b = n
      · rw [e]; exact hm
      · exact h b (by omega)
  rw [List.length_map, List.length_range] at z
  omega
def cand (n a : Nat) : Str := ⟨#[97 + a % 8]⟩ ++ Str.ofString (toString ((n + a + 2 : Nat) : Int))
theorem tl_cand (n a : Nat) : tl (cand n a) = (97 + a % 8) :: numL (n + a + 2) := by
  unfold cand
  rw [tl_append, tl_num]
  rfl
theorem cand_inj (n : Nat) : ∀ a b, cand n a = cand n b → a = b := fun a b h => by
  have h2 := congrArg tl h
  rw [tl_cand, tl_cand] at h2
  have h3 := numL_inj (List.cons.inj h2).2
  omega
theorem cand_no (n a : Nat) : Txt.isalpha (cand n a) = false := by
  unfold Txt.isalpha
  rw [Bool.and_eq_false_iff]
  right
  have e : (cand n a).cps.all Unicode.isAlpha = (tl (cand n a)).all Unicode.isAlpha := by
    unfold tl
    rw [Array.all_toList]
  rw [e, tl_cand]
  obtain ⟨d, hd⟩ := List.exists_mem_of_ne_nil _ (numL_ne (n + a + 2))
  obtain ⟨h1, h2⟩ := numL_digits (n + a + 2) d hd
  rw [List.all_eq_false]
  refine ⟨d, List.mem_cons_of_mem _ hd, ?_⟩
  have z := digits_no (d - 48) (by omega)
  have e2 : 48 + (d - 48) = d := by omega
  rw [e2] at z
  rw [z]
  decide
theorem cand_len {n a : Nat} (h : n + a + 2 < 10000) : (cand n a).length ≤ 8 := by
  rw [len_tl, tl_cand, List.length_cons]
  have := numL_len (n := n + a + 2) (k := 4) (by decide) h
  omega
def OkN (x : Str) : Prop := x.length ≤ 8 ∧ PyData.strOk x = true
theorem ok_one {c : Nat} (h : c < 128) : PyData.strOk ⟨#[c]⟩ = true := by
  simp [PyData.strOk]
  omega
theorem ok_tl (x : Str) : PyData.strOk x = (tl x).all (fun c => decide (c < 0x110000)) := by
  unfold PyData.strOk tl
  rw [Array.all_toList]
theorem ok_app {a b : Str} (h : PyData.strOk a = true) (h2 : PyData.strOk b = true) : PyData.strOk (a ++ b) = true := by
  rw [ok_tl] at *
  rw [tl_append, List.all_append, h, h2]
  rfl
theorem cand_ok {n a : Nat} (h : n + a + 2 < 10000) : OkN (cand n a) := by
  refine ⟨cand_len h, ?_⟩
  rw [ok_tl, tl_cand, List.all_cons, Bool.and_eq_true]
  refine ⟨decide_eq_true (by omega), List.all_eq_true.mpr fun d hd => decide_eq_true ?_⟩
  obtain ⟨h1, h2⟩ := numL_digits _ d hd
  omega
end K09

namespace K09
open PySem PySem.Spec PyProof.Rows L2 TL DL
local macro_rules | `(tactic| walk_at "dl") => `(tactic| try simp (config := { decide := false }) only [e_seq, e_asg, e_nm, e_op, e_un, e_cb, e_c, e_var, e_ifs, e_tru, e_B, e_drop, e_bm, e_bm0, e_ret, e_retN, e_next, e_break, e_cont, e_nil, e_cons, e_tup, e_lst, e_sl, e_onone, e_osome, e_gsub, e_call, e_callk, e_and, e_or, e_not, e_andv, e_orv, e_notv, e_if, e_par, e_for, e_comp, e_iseq, e_rng1, e_yes, e_gtp, e_gc, e_gn0,
  e_addI, e_addS, e_addT, e_addL, e_i20, e_i2, e_neg, e_cmpI, e_cmpS, e_eqI, e_eqS, e_eqB, e_ixT, e_ixLit, e_ixL, e_ixS, e_set, e_ixAT, e_ixALit, e_ixAL, e_ixAS, e_ixAD, e_setAL, e_setAD, e_dict0, e_inAL, e_inAT, e_inAD, e_inAS, e_listAT, e_listALit, e_listAL, e_listAD, e_max2, e_extend, e_isalpha, e_enum, keyW, sz0, sz1, sz2, sz3, sz4, sz5, sz6, O.dk.injEq, e_slT, e_slLit, e_slS, e_slL, e_lenAS, e_lenAT, e_lenALit, e_lenAL, e_lenAD, e_lenS, e_lenT, e_lenLit, e_lenL, e_i1, e_intI, e_intB, e_strI, e_strS, e_listT, e_listLit, e_listL, e_tupleT, e_tupleL, e_append, e_pop0, e_tyL, e_tyS, e_truL, e_truT, e_truB, e_truI, e_truS, e_truN, e_seqT, e_seqLit, e_seqL, e_in, e_inT, e_isi, kit_ll, kit_ss, tyW_L, tyW_S, tyW_T, tyW_I, tyW_B, cut_to1, cut_to2, cut_from1, wipeW_nil, wipeW_cons, Nat.reduceAdd, eq_self, List.map_cons, List.map_nil,
  atI_0, atI_1, atI_2, atI_3, atI_end, ixN_0, ixN_1, ixN_11, ixN_last, List.map_append, List.map_cons, List.map_nil, get_app, get_app0, set_app, set_app0, List.cons_append, List.nil_append, List.append_assoc, List.length_append, List.length_cons, List.length_nil, Nat.zero_add, List.length_map, List.length_set,
  List.getElem?_cons_zero, List.getElem?_cons_succ, List.set_cons_zero, List.set_cons_succ, Option.some.injEq, exists_eq_left', exists_eq_left, exists_and_left, W.int.injEq, W.bl.injEq, W.str.injEq, W.tup.injEq, W.ref.injEq, O.lst.injEq, List.cons.injEq, reduceCtorEq, false_and, exists_false, or_false, false_or, true_and, and_true, decide_eq_true_eq, Bool.false_xor, Bool.true_xor, Bool.not_eq_true', decide_eq_false_iff_not, List.isEmpty_cons, List.isEmpty_nil, Bool.not_true, Bool.not_false, if_true, if_false, not_true_eq_false, not_false_eq_true, ne_eq, Bool.false_eq_true, reduceIte])

/-! ### _law_names -/
def signs : Str := Str.ofString "0123456789abcdefghijklmnopqrstuvwxyz"
theorem signs_at : ∀ k : Nat, k < 36 → ∃ c, c < 128 ∧ (Str.ofString "0123456789abcdefghijklmnopqrstuvwxyz").cps.toList[k]? = some c := by
  have h : (Str.ofString "0123456789abcdefghijklmnopqrstuvwxyz").cps.toList.length = 36 := by decide +kernel
  have h2 : ((Str.ofString "0123456789abcdefghijklmnopqrstuvwxyz").cps.toList.all fun c => decide (c < 128)) = true := by decide +kernel
  intro k hk
  have hk' : k < (Str.ofString "0123456789abcdefghijklmnopqrstuvwxyz").cps.toList.length := by rw [h]; exact hk
  exact ⟨_, of_decide_eq_true (List.all_eq_true.mp h2 _ (List.getElem_mem hk')), List.getElem?_eq_getElem hk'⟩
theorem at_signs {n : Int} (h0 : 0 ≤ n) (h1 : n < 36) : ∃ c, c < 128 ∧ atI (Str.ofString "0123456789abcdefghijklmnopqrstuvwxyz").cps.toList n = some c := by
  obtain ⟨c, hb, hc⟩ := signs_at n.toNat (by omega)
  have e : n = ((n.toNat : Nat) : Int) := by omega
  rw [e]
  exact ⟨c, hb, atI_nat hc⟩
theorem eight_at : ∀ k : Nat, k < 8 → (Str.ofString "abcdefgh").cps.toList[k]? = some (97 + k) := by decide +kernel
theorem at_eight {n : Nat} : atI (Str.ofString "abcdefgh").cps.toList ((n : Int) % 8) = some (97 + n % 8) := by
  have e : (n : Int) % 8 = ((n % 8 : Nat) : Int) := by omega
  rw [e]
  exact atI_nat (eight_at _ (by omega))
theorem signs_len : (Str.ofString "0123456789abcdefghijklmnopqrstuvwxyz").length ≤ sizeLine := by decide +kernel
theorem eight_len : (Str.ofString "abcdefgh").length ≤ sizeLine := by decide +kernel
theorem cp3 : CPow 36 3 := ⟨by decide, by decide, by decide⟩
abbrev tkO (xs : List Str) : O := .dk (xs.map fun x => (Sum.inr x, DL.W.bl true))
theorem tk_some {xs : List Str} {x : Str} : (valW (xs.map fun x => (Sum.inr x, DL.W.bl true)) (.inr x)).isSome = decide (x ∈ xs) := by
  by_cases h : x ∈ xs
  · rw [valW_map (f := fun _ => DL.W.bl true) (g := fun x => x) (fun _ _ _ _ e => e) h rfl, decide_eq_true h]
    rfl
  · rw [valW_none (f := fun _ => DL.W.bl true) (g := fun x => x) (fun a ha (e : a = x) => h (e ▸ ha)), decide_eq_false h]
    rfl
def tailN : DS :=
(dSeq (dAsg (dOp vIxA (dVar 3) (dOp vAdd (dC (.int 10)) (dOp vMod (dCB vIntOf (aCons (dVar 8) aNil)) (dC (.int 26))))) (gNm 9))
(dSeq (dFor (iRng1 (aCons (dOp vMod (dCB vIntOf (aCons (dVar 5) aNil)) (dC (.int 7))) aNil)) (gNm 10)
(dSeq (dAsg (dOp vDiv (dVar 8) (dIf (dB (dOp vEq (dVar 10) (dC (.int 0)))) (dC (.int 26)) (dC (.int 36)))) (gNm 8))
(dAsg (dOp vAdd (dVar 9) (dOp vIxA (dVar 3) (dOp vMod (dCB vIntOf (aCons (dVar 8) aNil)) (dC (.int 36))))) (gNm 9))))
(dSeq (dFor (iRng1 (aCons (dOp vAdd (dCB vLenA (aCons (dVar 2) aNil)) (dC (.int 1))) aNil)) (gNm 11)
(dIfS (dOrT (dB (dOp (vInA false) (dVar 9) (dVar 2))) (dAndT (dB (dOp vGt (dCB vLenA (aCons (dVar 9) aNil)) (dC (.int 2)))) (dTru (dBM0 "str" vIsalpha (dVar 9)))))
(dAsg (dOp vAdd (dOp vIxA (dC (.str (Str.ofString "abcdefgh"))) (dOp vMod (dCB vIntOf (aCons (dVar 11) aNil)) (dC (.int 8)))) (dCB vStrOf (aCons (dOp vAdd (dOp vAdd (dCB vLenA (aCons (dVar 2) aNil)) (dVar 11)) (dC (.int 2))) aNil))) (gNm 9))
dNext))
(dSeq (dAsg (dC (.bl true)) (gSb (dVar 2) (dVar 9) vSetA))
(dDrop (dBM "list" vAppend (dVar 6) (aCons (dVar 9) aNil)))))))
theorem len_one (c : Nat) : (⟨#[c]⟩ : Str).length = 1 := rfl
theorem len_app (a b : Str) : (a ++ b).length = a.length + b.length := by rw [len_tl, tl_append, List.length_append, ← len_tl, ← len_tl]
theorem tail_ok {D : DEnds} {N : Slots → Sto → Prop} {st : Dr} {R : Sto} {j i : Nat} {names : List Str} {many code rest : Int} {alike : Bool} {x9 x10 x11 : Option DL.W} (hj : j < R.length) (hnd : names.Nodup) (hlen : names.length = i) (hi : i < 40) (c0 : 0 ≤ code) (c1 : code < 10000000) (r0 : 0 ≤ rest)
    (hN : ∀ nm y8 y9 y10 y11, nm ∉ names → OkN nm → N [some (.ref 1), some (.int many), some (.ref (j + 1 + 1)), some (.str (Str.ofString "0123456789abcdefghijklmnopqrstuvwxyz")), some (.bl alike), some (.int code), some (.ref (R.length + 1 + 1)), some (.int (i : Int)), y8, y9, y10, y11] (B st (R.set j (tkO (names ++ [nm])) ++ [stro (names ++ [nm])]))) :
    tailN { D with nx := N } [some (.ref 1), some (.int many), some (.ref (j + 1 + 1)), some (.str (Str.ofString "0123456789abcdefghijklmnopqrstuvwxyz")), some (.bl alike), some (.int code), some (.ref (R.length + 1 + 1)), some (.int (i : Int)), some (.int rest), x9, x10, x11] (B st (R.set j (tkO names) ++ [stro names])) := by
  unfold tailN
  walk_at "dl"
  obtain ⟨c, cb, hc⟩ := at_signs (n := 10 + rest % 26) (by have := Int.emod_nonneg rest (b := 26) (by decide); omega) (by have := Int.emod_lt_of_pos rest (b := 26) (by decide); omega)
  rw [e_ixAS hc]
  have k0 := Int.emod_nonneg code (b := 7) (by decide)
  have k1 := Int.emod_lt_of_pos code (b := 7) (by decide)
  refine ⟨by decide, signs_len, by decide, by omega, by omega, ?_⟩
  refine forW_inv (fun k env S' => ∃ rest nm x10 x11, S' = B st (R.set j (tkO names) ++ [stro names]) ∧ 0 ≤ rest ∧ (nm.length ≤ 1 + k ∧ PyData.strOk nm = true) ∧ k ≤ 6 ∧
      env = [some (.ref 1), some (.int many), some (.ref (j + 1 + 1)), some (.str (Str.ofString "0123456789abcdefghijklmnopqrstuvwxyz")), some (.bl alike), some (.int code), some (.ref (R.length + 1 + 1)), some (.int (i : Int)), some (.int rest), some (.str nm), x10, x11]) ⟨rest, ⟨#[c]⟩, _, _, rfl, r0, ⟨Nat.le_refl _, ok_one cb⟩, by decide, rfl⟩ ?_ ?_
  · rintro k x env S' hx ⟨rest2, nm, y10, y11, rfl, r2, ⟨hl, hso⟩, hk, rfl⟩ N2 hN2
    obtain ⟨hk2, rfl⟩ := rng_get hx
    refine ⟨trivial, ?_⟩
    have go : ∀ d : Int, 0 < d → (0 : Int) < 36 ∧ vIxA (.str (Str.ofString "0123456789abcdefghijklmnopqrstuvwxyz")) (.int (rest2 / d % 36)) (B st (R.set j (tkO names) ++ [stro names])) fun y S2 => vAdd (.str nm) y S2 fun w S1 =>
        N2 [some (.ref 1), some (.int many), some (.ref (j + 1 + 1)), some (.str (Str.ofString "0123456789abcdefghijklmnopqrstuvwxyz")), some (.bl alike), some (.int code), some (.ref (R.length + 1 + 1)), some (.int (i : Int)), some (.int (rest2 / d)), some w, some (.int (k : Int)), y11] S1 := by
      intro d hd
      obtain ⟨c2, cb2, hc2⟩ := at_signs (n := rest2 / d % 36) (Int.emod_nonneg _ (by decide)) (Int.emod_lt_of_pos _ (by decide))
      rw [e_ixAS hc2]
      walk_at "dl"
      refine ⟨by decide, signs_len, le_sz (by rw [len_one]; omega), hN2 _ _ ⟨rest2 / d, nm ++ ⟨#[c2]⟩, _, _, rfl, Int.ediv_nonneg r2 (by omega), ⟨by rw [len_app, len_one]; omega, ok_app hso (ok_one cb2)⟩, by omega, rfl⟩⟩
    walk_at "dl"
    split
    · exact ⟨⟨by decide, by decide⟩, go 26 (by decide)⟩
    · exact ⟨⟨by decide, by decide⟩, go 36 (by decide)⟩
  · rintro env S' ⟨rest2, nm, y10, y11, rfl, r2, ⟨hl, hso⟩, hk, rfl⟩
    rw [rng_len] at hl
    refine ⟨trivial, ?_⟩
    have hD : ∀ (T : Sto), (B st (R.set j (tkO names) ++ T))[j + 1 + 1]? = some (tkO names) := fun T => by
      show (R.set j (tkO names) ++ T)[j]? = _
      rw [List.getElem?_append_left (by rw [List.length_set]; exact hj), List.getElem?_set_self hj]
    walk_at "dl"
    rw [e_lenAD (hD _), List.length_map]
    walk_at "dl"
    refine ⟨by omega, by omega, ?_⟩
    have hnm8 : OkN nm := ⟨by omega, hso⟩
    refine forW_inv (fun a env S' => ∃ nm y11, S' = B st (R.set j (tkO names) ++ [stro names]) ∧ OkN nm ∧ a ≤ names.length + 1 ∧
        ((nm ∉ names ∧ ¬ (2 < nm.length ∧ Txt.isalpha nm = true)) ∨ a = 0 ∨ (0 < a ∧ nm = cand names.length (a - 1) ∧ ∀ b, b < a - 1 → cand names.length b ∈ names)) ∧
        env = [some (.ref 1), some (.int many), some (.ref (j + 1 + 1)), some (.str (Str.ofString "0123456789abcdefghijklmnopqrstuvwxyz")), some (.bl alike), some (.int code), some (.ref (R.length + 1 + 1)), some (.int (i : Int)), some (.int rest2), some (.str nm), y10, y11]) ⟨nm, _, rfl, hnm8, by omega, .inr (.inl rfl), rfl⟩ ?_ ?_
    · rintro a x env S' hx ⟨nm2, z11, rfl, hok2, ha, hcase, rfl⟩ N2 hN2
      have hl2 := hok2.1
      obtain ⟨ha2, rfl⟩ := rng_get hx
      refine ⟨trivial, ?_⟩
      walk_at "dl"
      rw [e_inAD (hD _) rfl, tk_some]
      have go : (∀ b, b < a → cand names.length b ∈ names) → (0 : Int) < 8 ∧ vIxA (.str (Str.ofString "abcdefgh")) (.int ((a : Int) % 8)) (B st (R.set j (tkO names) ++ [stro names])) fun x S1 => vLenA [.ref (j + 1 + 1)] S1 fun x_1 S1 =>
          vAdd x_1 (.int (a : Int)) S1 fun x_2 S1 => vAdd x_2 (.int 2) S1 fun w S1 => vStrOf [w] S1 fun y S2 => vAdd x y S2 fun w S1 =>
            N2 [some (.ref 1), some (.int many), some (.ref (j + 1 + 1)), some (.str (Str.ofString "0123456789abcdefghijklmnopqrstuvwxyz")), some (.bl alike), some (.int code), some (.ref (R.length + 1 + 1)), some (.int (i : Int)), some (.int rest2), some w, y10, some (.int (a : Int))] S1 := by
        intro hall
        rw [e_ixAS at_eight]
        refine ⟨by decide, eight_len, ?_⟩
        rw [e_lenAD (hD _), List.length_map]
        walk_at "dl"
        have e : (names.length : Int) + (a : Int) + 2 = ((names.length + a + 2 : Nat) : Int) := by omega
        rw [e]
        have hc8 : (cand names.length a).length ≤ 8 := cand_len (by omega)
        refine ⟨PySem.Flt.log2_lt_of (by decide) (Nat.lt_of_lt_of_le (show ((names.length + a + 2 : Nat) : Int).natAbs < 2 ^ 7 by show names.length + a + 2 < 128; omega) (Nat.pow_le_pow_right (by decide) (by decide))), ?_, hN2 _ _ ⟨cand names.length a, _, rfl, cand_ok (by omega), by omega, .inr (.inr ⟨by omega, rfl, fun b hb => hall b (by omega)⟩), rfl⟩⟩
        refine le_sz ?_
        have e2 : (⟨#[97 + a % 8]⟩ : Str).length + (Str.ofString (toString ((names.length + a + 2 : Nat) : Int))).length = (cand names.length a).length := (len_app _ _).symm
        rw [e2]
        omega
      have keep : nm2 ∉ names → ¬ (2 < nm2.length ∧ Txt.isalpha nm2 = true) → N2 [some (.ref 1), some (.int many), some (.ref (j + 1 + 1)), some (.str (Str.ofString "0123456789abcdefghijklmnopqrstuvwxyz")), some (.bl alike), some (.int code), some (.ref (R.length + 1 + 1)), some (.int (i : Int)), some (.int rest2), some (.str nm2), y10, some (.int (a : Int))] (B st (R.set j (tkO names) ++ [stro names])) :=
        fun h1 h2 => hN2 _ _ ⟨nm2, _, rfl, hok2, by omega, .inl ⟨h1, h2⟩, rfl⟩
      walk_at "dl"
      split
      · rename_i hin
        refine go fun b hb => ?_
        rcases hcase with h | h | ⟨h1, h2, h3⟩
        · exact absurd hin h.1
        · omega
        · by_cases e : b = a - 1
          · rw [e, ← h2]
            exact hin
          · exact h3 b (by omega)
      · rename_i hnin
        refine ⟨le_sz (by omega), ?_⟩
        split
        · rename_i h2l
          split
          · rename_i hal
            refine go fun b hb => ?_
            rcases hcase with h | h | ⟨h1, h2, h3⟩
            · exact absurd ⟨by omega, hal⟩ h.2
            · omega
            · rw [h2, cand_no] at hal
              cases hal
          · rename_i hal
            exact keep hnin fun h => hal h.2
        · rename_i h2l
          exact keep hnin fun h => h2l (by omega)
    · rintro env S' ⟨nm2, z11, rfl, hok2, ha, hcase, rfl⟩
      rw [rng_len] at ha hcase
      refine ⟨trivial, ?_⟩
      walk_at "dl"
      have hnot : nm2 ∉ names := by
        rcases hcase with h | h | ⟨h1, h2, h3⟩
        · exact h.1
        · omega
        · rw [h2]
          have e : ((names.length : Int) + 1).toNat - 1 = names.length := by omega
          rw [e] at h3 ⊢
          exact pigeon (cand_inj names.length) (Nat.le_refl _) h3
      have hnone : valW (names.map fun x => (Sum.inr x, DL.W.bl true)) (.inr nm2) = none :=
        valW_none (f := fun _ => DL.W.bl true) (g := fun x => x) (fun a ha (e : a = nm2) => hnot (e ▸ ha))
      rw [e_setAD (hD _) rfl, putW_new hnone]
      have eS : (B st (R.set j (tkO names) ++ [stro names])).set (j + 1 + 1) (.dk (names.map (fun x => (Sum.inr x, DL.W.bl true)) ++ [(Sum.inr nm2, DL.W.bl true)])) = B st (R.set j (tkO (names ++ [nm2])) ++ [stro names]) := by
        show B st ((R.set j (tkO names) ++ [stro names]).set j _) = _
        rw [List.set_append_left _ _ (by rw [List.length_set]; exact hj), List.set_set]
        simp only [tkO, List.map_append]
        rfl
      rw [eS]
      have eL : (R.set j (tkO (names ++ [nm2]))).length = R.length := by simp
      have hL : (B st (R.set j (tkO (names ++ [nm2])) ++ [stro names]))[R.length + 1 + 1]? = some (stro names) := by
        show (R.set j (tkO (names ++ [nm2])) ++ [stro names])[R.length]? = _
        rw [← eL]
        exact get_app0
      refine ⟨lt_sz (by rw [List.length_map]; omega), .inl ⟨rfl, _, hL⟩, ?_⟩
      rw [e_append hL, List.length_map]
      refine ⟨lt_sz (by omega), ?_⟩
      have eS2 : (B st (R.set j (tkO (names ++ [nm2])) ++ [stro names])).set (R.length + 1 + 1) (.lst (names.map W.str ++ [.str nm2])) = B st (R.set j (tkO (names ++ [nm2])) ++ [stro (names ++ [nm2])]) := by
        show B st ((R.set j (tkO (names ++ [nm2])) ++ [stro names]).set R.length _) = _
        rw [← eL, set_app0]
        simp only [stro, List.map_append]
        rfl
      rw [eS2]
      exact hN nm2 _ _ _ _ hnot hok2
def F_names : DSpec := fun ws S Q => ∃ st R j many, ws = [.ref 1, .int many, .ref (j + 1 + 1)] ∧ S = B st R ∧ R[j]? = some (.dk []) ∧ Good st ∧ 0 ≤ many ∧ many ≤ 40 ∧
  ∀ st' names kv, Good st' → names.Nodup → names.length = many.toNat → (∀ x ∈ names, OkN x) → Q (.ref (R.length + 1 + 1)) (B st' (R.set j kv ++ [stro names]))
theorem vc_names : ∀ ws S Q, Closed S → F_names ws S Q → d_law_names F_pick (endsW S.length Q) (startW N_law_names.length ws) S := by
  rintro ws S Q cl ⟨st, R, j, many, rfl, rfl, hj, g, h0, h40, q⟩
  show d_law_names F_pick _ [some (.ref 1), some (.int many), some (.ref (j + 1 + 1)), none, none, none, none, none, none, none, none, none] _
  unfold d_law_names
  have hjl : j < R.length := (List.getElem?_eq_some_iff.mp hj).1
  walk_at "dl"
  refine pick_ok g (by decide) (by decide) fun st1 al g1 a0 a1 => ?_
  walk_at "dl"
  refine ⟨.inl (.inl ⟨by decide, by decide⟩), cp3, .inl (.inl ⟨by decide, by decide⟩), ?_⟩
  refine pick_ok g1 (by decide) (by decide) fun st2 code g2 c0 c1 => ?_
  walk_at "dl"
  refine ⟨by omega, by omega, ?_⟩
  have c2 : code < 10000000 := by
    have : (8 * 26 * 36 ^ Int.toNat 3 : Int) < 10000000 := by decide
    omega
  generalize decide (al = 0) = alike
  refine forW_inv (fun i env S' => ∃ st names x7 x8 x9 x10 x11, S' = B st (R.set j (tkO names) ++ [stro names]) ∧ Good st ∧ names.Nodup ∧ names.length = i ∧ i ≤ 40 ∧ (∀ x ∈ names, OkN x) ∧
      env = [some (.ref 1), some (.int many), some (.ref (j + 1 + 1)), some (.str (Str.ofString "0123456789abcdefghijklmnopqrstuvwxyz")), some (.bl alike), some (.int code), some (.ref (R.length + 1 + 1)), x7, x8, x9, x10, x11])
      ⟨st2, [], _, _, _, _, _, ?_, g2, List.nodup_nil, rfl, by decide, (by intro x h; cases h), rfl⟩ ?_ ?_
  · have e : R.set j (tkO []) = R := by
      obtain ⟨h1, h2⟩ := List.getElem?_eq_some_iff.mp hj
      show R.set j (.dk []) = R
      rw [← h2, List.set_getElem_self]
    rw [e]
    rfl
  · rintro i x env S' hx ⟨st3, names, x7, x8, x9, x10, x11, rfl, g3, hnd, hlen, hi, hok, rfl⟩ N hN
    obtain ⟨hi2, rfl⟩ := rng_get hx
    refine ⟨trivial, ?_⟩
    show dSeq (dAsg (dIf (dTru (dVar 4)) (dOp vAdd (dVar 5) (dVar 7)) (dCall F_pick (aCons (dVar 0) (aCons (dOp vMul (dOp vMul (dC (.int 8)) (dC (.int 26))) (dOp vPow (dC (.int 36)) (dC (.int 3)))) aNil)))) (gNm 8)) tailN _ _ _
    have go : ∀ (st : Dr) (rest : Int), Good st → 0 ≤ rest → tailN { nx := N, rt := Ends0 (R.length + 1 + 1) Q, bk := dRet (dVar 6) (endsW (R.length + 1 + 1) Q), ct := N } [some (.ref 1), some (.int many), some (.ref (j + 1 + 1)), some (.str (Str.ofString "0123456789abcdefghijklmnopqrstuvwxyz")), some (.bl alike), some (.int code), some (.ref (R.length + 1 + 1)), some (.int (i : Int)), some (.int rest), x9, x10, x11] (B st (R.set j (tkO names) ++ [stro names])) := by
      intro st rest gs hr
      refine tail_ok (D := { nx := N, rt := Ends0 (R.length + 1 + 1) Q, bk := dRet (dVar 6) (endsW (R.length + 1 + 1) Q), ct := N }) hjl hnd hlen (by omega) c0 c2 hr fun nm y8 y9 y10 y11 h1 h2 => hN _ _ ⟨st, names ++ [nm], _, _, _, _, _, rfl, gs, ?_, by simp [hlen], by omega, fun x h => ?_, rfl⟩
      · exact List.nodup_append.mpr ⟨hnd, by simp, fun a ha b hb e => by
          rw [List.mem_singleton.mp hb] at e
          exact h1 (e ▸ ha)⟩
      · rcases List.mem_append.mp h with h | h
        · exact hok x h
        · rw [List.mem_singleton.mp h]
          exact h2
    walk_at "dl"
    split
    · exact go st3 _ g3 (by omega)
    · refine ⟨.inl (.inl ⟨by decide, by decide⟩), cp3, .inl (.inl ⟨by decide, by decide⟩), ?_⟩
      exact pick_ok g3 (by decide) (by decide) fun st4 r g4 r0 r1 => go st4 r g4 r0
  · rintro env S' ⟨st3, names, x7, x8, x9, x10, x11, rfl, g3, hnd, hlen, hi, hok, rfl⟩
    rw [rng_len] at hlen
    refine ⟨trivial, ?_⟩
    walk_at "dl"
    have z := Ends0.last (n := R.length + 1 + 1) (Q := Q) (S := B st3 (R.set j (tkO names))) (T := [stro names]) (k := 0) (ws := names.map W.str) (by simp) (closed_set cl ?_) rfl (pureL_strs names) ?_
    · have e : (B st3 (R.set j (tkO names))).length + 0 = R.length + 1 + 1 := by simp
      rw [e] at z
      exact z
    · show W.bndL _ ((names.map fun x => (Sum.inr x, DL.W.bl true)).map (·.2)) = true
      refine pureL_bnd _ _ (pureL_of fun w hw => ?_)
      rw [List.map_map] at hw
      obtain ⟨x, _, rfl⟩ := List.mem_map.mp hw
      rfl
    · have z := q st3 names (tkO names) g3 hnd hlen hok
      simpa using z
end K09

namespace K09
open PySem PySem.Spec PyProof.Rows L2 TL DL
local macro_rules | `(tactic| walk_at "dl") => `(tactic| try simp (config := { decide := false }) only [e_seq, e_asg, e_nm, e_op, e_un, e_cb, e_c, e_var, e_ifs, e_tru, e_B, e_drop, e_bm, e_bm0, e_ret, e_retN, e_next, e_break, e_cont, e_nil, e_cons, e_tup, e_lst, e_sl, e_onone, e_osome, e_gsub, e_call, e_callk, e_and, e_or, e_not, e_andv, e_orv, e_notv, e_if, e_par, e_for, e_comp, e_iseq, e_rng1, e_yes, e_gtp, e_gc, e_gn0,
  e_addI, e_addS, e_addT, e_addL, e_i20, e_i2, e_neg, e_cmpI, e_cmpS, e_eqI, e_eqS, e_eqB, e_ixT, e_ixLit, e_ixL, e_ixS, e_set, e_ixAT, e_ixALit, e_ixAL, e_ixAS, e_ixAD, e_setAL, e_setAD, e_dict0, e_inAL, e_inAT, e_inAD, e_inAS, e_listAT, e_listALit, e_listAL, e_listAD, e_max2, e_extend, e_isalpha, e_enum, keyW, sz0, sz1, sz2, sz3, sz4, sz5, sz6, O.dk.injEq, e_slT, e_slLit, e_slS, e_slL, e_lenAS, e_lenAT, e_lenALit, e_lenAL, e_lenAD, e_lenS, e_lenT, e_lenLit, e_lenL, e_i1, e_intI, e_intB, e_strI, e_strS, e_listT, e_listLit, e_listL, e_tupleT, e_tupleL, e_append, e_pop0, e_tyL, e_tyS, e_truL, e_truT, e_truB, e_truI, e_truS, e_truN, e_seqT, e_seqLit, e_seqL, e_in, e_inT, e_isi, kit_ll, kit_ss, tyW_L, tyW_S, tyW_T, tyW_I, tyW_B, cut_to1, cut_to2, cut_from1, wipeW_nil, wipeW_cons, Nat.reduceAdd, eq_self, List.map_cons, List.map_nil,
  atI_0, atI_1, atI_2, atI_3, atI_end, ixN_0, ixN_1, ixN_11, ixN_last, List.map_append, List.map_cons, List.map_nil, get_app, get_app0, set_app, set_app0, List.cons_append, List.nil_append, List.append_assoc, List.length_append, List.length_cons, List.length_nil, Nat.zero_add, List.length_map, List.length_set,
  List.getElem?_cons_zero, List.getElem?_cons_succ, List.set_cons_zero, List.set_cons_succ, Option.some.injEq, exists_eq_left', exists_eq_left, exists_and_left, W.int.injEq, W.bl.injEq, W.str.injEq, W.tup.injEq, W.ref.injEq, O.lst.injEq, List.cons.injEq, reduceCtorEq, false_and, exists_false, or_false, false_or, true_and, and_true, decide_eq_true_eq, Bool.false_xor, Bool.true_xor, Bool.not_eq_true', decide_eq_false_iff_not, List.isEmpty_cons, List.isEmpty_nil, Bool.not_true, Bool.not_false, if_true, if_false, not_true_eq_false, not_false_eq_true, ne_eq, Bool.false_eq_true, reduceIte])

/-! ### the data -/
structure Row where
  t : Str
  ms : List Str
def Row.enc (r : Row) : DL.W := .tup [.str r.t, .tup (r.ms.map W.str)]
structure Rule where
  body : List Row
  head : Row
def Rule.enc (r : Rule) : DL.W := .tup [.tup (r.body.map Row.enc), r.head.enc]
structure Kept where
  t : Str
  hd : List Str
  body : List Row
def Kept.enc (r : Kept) : DL.W := .tup [.str r.t, .tup (r.hd.map W.str), .tup (r.body.map Row.enc)]
def tabE (t : Str × Int) : DL.W := .tup [.str t.1, .int t.2]
structure House where
  tabs : List (Str × Int)
  known : DL.W
  doors : DL.W
  rules : List Rule
  ties : DL.W
  kept : List Kept
def House.enc (h : House) : DL.W := .tup [.tup (h.tabs.map tabE), h.known, h.doors, .tup (h.rules.map Rule.enc), h.ties, .tup (h.kept.map Kept.enc)]
/-! ### first occurrences -/
def addTo (acc : List Str) (x : Str) : List Str := if x ∈ acc then acc else acc ++ [x]
def firsts (l : List Str) : List Str := l.foldl addTo []
def marksL (rows : List Row) : List Str := (rows.map Row.ms).flatten
def marks (rows : List Row) : List Str := firsts (marksL rows)
theorem addTo_len (acc : List Str) (x : Str) : (addTo acc x).length ≤ acc.length + 1 := by
  unfold addTo
  split
  · omega
  · simp
theorem fold_len : ∀ (l acc : List Str), (l.foldl addTo acc).length ≤ acc.length + l.length
  | [], acc => Nat.le_refl _
  | x :: l, acc => by
    have h := fold_len l (addTo acc x)
    have h2 := addTo_len acc x
    rw [List.foldl_cons, List.length_cons]
    omega
theorem putW_same {xs : List Str} {x : Str} (h : x ∈ xs) : putW (xs.map fun x => (Sum.inr x, DL.W.bl true)) (.inr x) (.bl true) = xs.map fun x => (Sum.inr x, DL.W.bl true) := by
  unfold putW
  rw [if_pos (List.any_eq_true.mpr ⟨(Sum.inr x, .bl true), List.mem_map.mpr ⟨x, h, rfl⟩, by simp⟩), List.map_map]
  refine List.map_congr_left fun y hy => ?_
  show (if (Sum.inr y : Key) = Sum.inr x then ((Sum.inr y : Key), DL.W.bl true) else (Sum.inr y, DL.W.bl true)) = _
  split <;> rfl
theorem putW_add (xs : List Str) (x : Str) : putW (xs.map fun x => (Sum.inr x, DL.W.bl true)) (.inr x) (.bl true) = (addTo xs x).map fun x => (Sum.inr x, DL.W.bl true) := by
  unfold addTo
  split
  · rename_i h
    exact putW_same h
  · rename_i h
    rw [putW_new (valW_none (f := fun _ => DL.W.bl true) (g := fun x => x) (fun a ha (e : a = x) => h (e ▸ ha))), List.map_append]
    rfl
theorem take_row {rows : List Row} {i : Nat} {r : Row} (h : rows[i]? = some r) : marksL (rows.take (i + 1)) = marksL (rows.take i) ++ r.ms := by
  unfold marksL
  rw [List.take_add_one, h, List.map_append, List.flatten_append]
  simp
theorem fold_take {ms : List Str} {acc : List Str} {k : Nat} {x : Str} (h : ms[k]? = some x) : (ms.take (k + 1)).foldl addTo acc = addTo ((ms.take k).foldl addTo acc) x := by
  rw [List.take_add_one, h, List.foldl_append]
  rfl
structure OkRows (rows : List Row) : Prop where
  len : (marksL rows).length ≤ 1000
theorem fold_part {rows : List Row} {i : Nat} {r : Row} {k : Nat} (ok : OkRows rows) (h : rows[i]? = some r) (hk : k ≤ r.ms.length) : ((r.ms.take k).foldl addTo (firsts (marksL (rows.take i)))).length ≤ 1000 := by
  have h1 := fold_len (r.ms.take k) (firsts (marksL (rows.take i)))
  have h2 := fold_len (marksL (rows.take i)) []
  have h3 : (marksL (rows.take (i + 1))).length ≤ (marksL rows).length := by
    have e : marksL rows = marksL (rows.take (i + 1)) ++ marksL (rows.drop (i + 1)) := by
      unfold marksL
      rw [← List.flatten_append, ← List.map_append, List.take_append_drop]
    rw [e, List.length_append]
    omega
  rw [take_row h, List.length_append] at h3
  have h4 : (r.ms.take k).length ≤ r.ms.length := by rw [List.length_take]; omega
  have h5 := ok.len
  have h6 : (firsts (marksL (rows.take i))).length ≤ (marksL (rows.take i)).length := by
    have := h2
    unfold firsts
    simpa using this
  omega
/-! ### marks_of, _law_marks -/
def F_marks : DSpec := fun ws S Q => ∃ rows, ws = [.tup (rows.map Row.enc)] ∧ OkRows rows ∧ Q (tupS (marks rows)) S
theorem vc_marks : ∀ ws S Q, Closed S → F_marks ws S Q → d_marks_of (endsW S.length Q) (startW N_marks_of.length ws) S := by
  rintro ws S Q cl ⟨rows, rfl, ok, q⟩
  show d_marks_of _ [some _, none, none, none] _
  unfold d_marks_of
  walk_at "dl"
  refine forW_inv (fun i env S' => ∃ x2 x3, S' = S ++ [tkO (firsts (marksL (rows.take i)))] ∧ env = [some (.tup (rows.map Row.enc)), some (.ref S.length), x2, x3]) ⟨_, _, rfl, rfl⟩ ?_ ?_
  · rintro i x env S' hx ⟨x2, x3, rfl, rfl⟩ N hN
    obtain ⟨r, hr, rfl, _, _⟩ := map_get hx
    refine ⟨trivial, ?_⟩
    unfold Row.enc
    walk_at "dl"
    refine forW_inv (fun k env S' => ∃ x3, S' = S ++ [tkO ((r.ms.take k).foldl addTo (firsts (marksL (rows.take i))))] ∧ env = [some (.tup (rows.map Row.enc)), some (.ref S.length), some (.tup [.str r.t, .tup (r.ms.map W.str)]), x3]) ⟨_, rfl, rfl⟩ ?_ ?_
    · rintro k x env S' hx ⟨x3, rfl, rfl⟩ N2 hN2
      obtain ⟨m, hm, rfl, _, hk⟩ := map_get hx
      refine ⟨trivial, ?_⟩
      walk_at "dl"
      refine ⟨lt_sz (by have := fold_part ok hr (Nat.le_of_lt hk); omega), ?_⟩
      rw [putW_add]
      refine hN2 _ _ ⟨_, ?_, rfl⟩
      rw [fold_take hm]
    · rintro env S' ⟨x3, rfl, rfl⟩
      refine ⟨trivial, hN _ _ ⟨_, _, ?_, rfl⟩⟩
      rw [List.length_map, List.take_length, take_row hr]
      unfold firsts
      rw [List.foldl_append]
  · rintro env S' ⟨x2, x3, rfl, rfl⟩
    refine ⟨trivial, ?_⟩
    rw [List.length_map, List.take_length]
    walk_at "dl"
    have e : ((firsts (marksL rows)).map (fun x => ((Sum.inr x : Key), DL.W.bl true))).map (fun kv => wK kv.1) = (marks rows).map W.str := by
      rw [List.map_map]
      rfl
    rw [e]
    exact Ends0.drop _ (Nat.le_refl _) cl (pure_bnd _ _ (pureL_strs (marks rows))) q
theorem marks_ok {rows : List Row} {S : Sto} {Q : WK} (ok : OkRows rows) (q : Q (tupS (marks rows)) S) : F_marks [.tup (rows.map Row.enc)] S Q := ⟨rows, rfl, ok, q⟩
theorem marks_ok1 {r : Row} {S : Sto} {Q : WK} (ok : OkRows [r]) (q : Q (tupS (marks [r])) S) : F_marks [.tup [r.enc]] S Q := ⟨[r], rfl, ok, q⟩
def F_lmarks : DSpec := fun ws S Q => ∃ rows, ws = [.tup (rows.map Row.enc)] ∧ OkRows rows ∧ Q (.ref S.length) (S ++ [stro (marks rows)])
theorem vc_lmarks : ∀ ws S Q, Closed S → F_lmarks ws S Q → d_law_marks (endsW S.length Q) (startW N_law_marks.length ws) S := by
  rintro ws S Q cl ⟨rows, rfl, ok, q⟩
  show d_law_marks _ [some _, none, none, none, none] _
  unfold d_law_marks
  walk_at "dl"
  refine forW_inv (fun i env S' => ∃ x2 x3 x4, S' = S ++ [stro (firsts (marksL (rows.take i)))] ∧ env = [some (.tup (rows.map Row.enc)), some (.ref S.length), x2, x3, x4]) ⟨_, _, _, rfl, rfl⟩ ?_ ?_
  · rintro i x env S' hx ⟨x2, x3, x4, rfl, rfl⟩ N hN
    obtain ⟨r, hr, rfl, _, _⟩ := map_get hx
    refine ⟨trivial, ?_⟩
    unfold Row.enc
    walk_at "dl"
    refine forW_inv (fun k env S' => ∃ x4, S' = S ++ [stro ((r.ms.take k).foldl addTo (firsts (marksL (rows.take i))))] ∧ env = [some (.tup (rows.map Row.enc)), some (.ref S.length), some (.str r.t), some (.tup (r.ms.map W.str)), x4]) ⟨_, rfl, rfl⟩ ?_ ?_
    · rintro k x env S' hx ⟨x4, rfl, rfl⟩ N2 hN2
      obtain ⟨m, hm, rfl, _, hk⟩ := map_get hx
      refine ⟨trivial, ?_⟩
      walk_at "dl"
      refine ⟨rfl, flW_strs _, ?_⟩
      rw [inW_strs]
      have z := hN2 [some (.tup (rows.map Row.enc)), some (.ref S.length), some (.str r.t), some (.tup (r.ms.map W.str)), some (.str m)] _ ⟨_, rfl, rfl⟩
      rw [fold_take hm, addTo] at z
      split
      · rename_i h
        rw [if_neg (by simpa using h)] at z
        refine ⟨lt_sz (by have := fold_part ok hr (Nat.le_of_lt hk); omega), ?_⟩
        simp only [stro, List.map_append] at z
        exact z
      · rename_i h
        rw [if_pos (by simpa using h)] at z
        exact z
    · rintro env S' ⟨x4, rfl, rfl⟩
      refine ⟨trivial, hN _ _ ⟨_, _, _, ?_, rfl⟩⟩
      rw [List.length_map, List.take_length, take_row hr]
      unfold firsts
      rw [List.foldl_append]
  · rintro env S' ⟨x2, x3, x4, rfl, rfl⟩
    refine ⟨trivial, ?_⟩
    rw [List.length_map, List.take_length]
    walk_at "dl"
    have z := Ends0.last (n := S.length) (Q := Q) (S := S) (T := [stro (marks rows)]) (k := 0) (Nat.le_refl _) cl rfl (pureL_strs _) q
    exact z
theorem lmarks_ok {rows : List Row} {S : Sto} {Q : WK} (ok : OkRows rows) (q : Q (.ref S.length) (S ++ [stro (marks rows)])) : F_lmarks [.tup (rows.map Row.enc)] S Q := ⟨rows, rfl, ok, q⟩
theorem lmarks_ok1 {r : Row} {S : Sto} {Q : WK} (ok : OkRows [r]) (q : Q (.ref S.length) (S ++ [stro (marks [r])])) : F_lmarks [.tup [r.enc]] S Q := ⟨[r], rfl, ok, q⟩
/-! ### rules_into -/
def isInto (rules : List Rule) (t : Str) (i : Nat) : Bool := match rules[i]? with
  | some r => decide (r.head.t = t)
  | none => false
def intoN (rules : List Rule) (t : Str) : List Nat := (List.range rules.length).filter (isInto rules t)
def natE (i : Nat) : DL.W := .int (i : Int)
theorem pureL_nats (is : List Nat) : W.pureL (is.map natE) = true := pureL_of fun w h => by
  obtain ⟨x, _, rfl⟩ := List.mem_map.mp h
  rfl
def F_into : DSpec := fun ws S Q => ∃ h t, ws = [House.enc h, .str t] ∧ h.rules.length ≤ 100 ∧ Q (.tup ((intoN h.rules t).map natE)) S
theorem vc_into : ∀ ws S Q, Closed S → F_into ws S Q → d_rules_into (endsW S.length Q) (startW N_rules_into.length ws) S := by
  rintro ws S Q cl ⟨h, t, rfl, hl, q⟩
  show d_rules_into _ [some _, some _, none, none] _
  unfold d_rules_into House.enc
  walk_at "dl"
  refine compW_inv (fun i acc S' => S' = S ∧ acc = ((List.range i).filter (isInto h.rules t)).map natE) ⟨rfl, rfl⟩ ?_ ?_
  · rintro i x acc S' hx ⟨rfl, rfl⟩ N hN
    obtain ⟨w, hw, rfl⟩ := enumW_get hx
    obtain ⟨r, hr, rfl, _, hi⟩ := map_get hw
    refine ⟨trivial, ?_⟩
    unfold Rule.enc Row.enc
    walk_at "dl"
    have hlen : ((List.range i).filter (isInto h.rules t)).length ≤ i := by
      have := List.length_filter_le (isInto h.rules t) (List.range i)
      rwa [List.length_range] at this
    have hs : ((List.range (i + 1)).filter (isInto h.rules t)).map natE = ((List.range i).filter (isInto h.rules t)).map natE ++ (if r.head.t = t then [natE i] else []) := by
      rw [List.range_succ, List.filter_append, List.map_append]
      congr 1
      have e : isInto h.rules t i = decide (r.head.t = t) := by
        unfold isInto
        rw [hr]
      by_cases ht : r.head.t = t
      · simp [e, ht]
      · simp [e, ht]
    split
    · rename_i ht
      refine ⟨lt_sz (by omega), hN _ _ ⟨rfl, ?_⟩⟩
      rw [hs, if_pos ht]
      rfl
    · rename_i ht
      refine hN _ _ ⟨rfl, ?_⟩
      rw [hs, if_neg ht, List.append_nil]
  · rintro acc S' ⟨rfl, rfl⟩
    rw [enumW_len, List.length_map]
    refine ⟨trivial, ?_⟩
    walk_at "dl"
    exact Ends0.drop _ (Nat.le_refl _) cl (pure_bnd _ _ (pureL_nats (intoN h.rules t))) q
/-! ### open_marks -/
def opens (r : Rule) : List Str := (marks [r.head]).filter fun m => decide (m ∉ marks r.body)
structure OkRule (r : Rule) : Prop where
  h : OkRows [r.head]
  b : OkRows r.body
theorem marks_len (rows : List Row) (ok : OkRows rows) : (marks rows).length ≤ 1000 := by
  have h := fold_len (marksL rows) []
  have h2 := ok.len
  have h3 : (marks rows).length ≤ (marksL rows).length := by
    unfold marks firsts
    simpa using h
  omega
theorem filter_take {l : List Str} {p : Str → Bool} {i : Nat} {m : Str} (h : l[i]? = some m) : (l.take (i + 1)).filter p = (l.take i).filter p ++ (if p m = true then [m] else []) := by
  rw [List.take_add_one, h, List.filter_append]
  congr 1
  show List.filter p [m] = _
  rw [List.filter_cons]
  rfl
def F_open : DSpec := fun ws S Q => ∃ r, ws = [Rule.enc r] ∧ OkRule r ∧ Q (tupS (opens r)) S
theorem vc_open : ∀ ws S Q, Closed S → F_open ws S Q → d_open_marks F_marks (endsW S.length Q) (startW N_open_marks.length ws) S := by
  rintro ws S Q cl ⟨r, rfl, ok, q⟩
  show d_open_marks F_marks _ [some _, none, none, none, none] _
  unfold d_open_marks Rule.enc
  walk_at "dl"
  refine marks_ok ok.b ?_
  walk_at "dl"
  refine marks_ok1 ok.h ?_
  walk_at "dl"
  refine compW_inv (fun i acc S' => S' = S ∧ acc = (((marks [r.head]).take i).filter fun m => decide (m ∉ marks r.body)).map W.str) ⟨rfl, rfl⟩ ?_ ?_
  · rintro i x acc S' hx ⟨rfl, rfl⟩ N hN
    obtain ⟨m, hm, rfl, _, hi⟩ := map_get hx
    refine ⟨trivial, ?_⟩
    walk_at "dl"
    refine ⟨rfl, flW_strs _, ?_⟩
    rw [inW_strs]
    have hlen : (((marks [r.head]).take i).filter fun m => decide (m ∉ marks r.body)).length ≤ 1000 := by
      have h1 := List.length_filter_le (fun m => decide (m ∉ marks r.body)) ((marks [r.head]).take i)
      have h2 := marks_len _ ok.h
      rw [List.length_take] at h1
      omega
    split
    · rename_i h
      refine ⟨lt_sz (by omega), hN _ _ ⟨rfl, ?_⟩⟩
      rw [filter_take hm, if_pos (by simpa using h), List.map_append]
      rfl
    · rename_i h
      refine hN _ _ ⟨rfl, ?_⟩
      rw [filter_take hm, if_neg (by simpa using h), List.append_nil]
  · rintro acc S' ⟨rfl, rfl⟩
    rw [List.length_map, List.take_length]
    refine ⟨trivial, ?_⟩
    walk_at "dl"
    exact Ends0.drop _ (Nat.le_refl _) cl (pure_bnd _ _ (pureL_strs (opens r))) q
def F_lopen : DSpec := fun ws S Q => ∃ r, ws = [Rule.enc r] ∧ OkRule r ∧ Q (.ref S.length) (S ++ [stro (opens r)])
theorem vc_lopen : ∀ ws S Q, Closed S → F_lopen ws S Q → d_law_open F_lmarks (endsW S.length Q) (startW N_law_open.length ws) S := by
  rintro ws S Q cl ⟨r, rfl, ok, q⟩
  show d_law_open F_lmarks _ [some _, none, none] _
  unfold d_law_open Rule.enc
  walk_at "dl"
  refine lmarks_ok ok.b ?_
  walk_at "dl"
  refine lmarks_ok1 ok.h ?_
  walk_at "dl"
  refine compW_inv (fun i acc S' => S' = S ++ [stro (marks r.body), stro (marks [r.head])] ∧ acc = (((marks [r.head]).take i).filter fun m => decide (m ∉ marks r.body)).map W.str) ⟨rfl, rfl⟩ ?_ ?_
  · rintro i x acc S' hx ⟨rfl, rfl⟩ N hN
    obtain ⟨m, hm, rfl, _, hi⟩ := map_get hx
    refine ⟨get_app, ?_⟩
    walk_at "dl"
    refine ⟨rfl, flW_strs _, ?_⟩
    rw [inW_strs]
    have hlen : (((marks [r.head]).take i).filter fun m => decide (m ∉ marks r.body)).length ≤ 1000 := by
      have h1 := List.length_filter_le (fun m => decide (m ∉ marks r.body)) ((marks [r.head]).take i)
      have h2 := marks_len _ ok.h
      rw [List.length_take] at h1
      omega
    split
    · rename_i h
      refine ⟨lt_sz (by omega), hN _ _ ⟨rfl, ?_⟩⟩
      rw [filter_take hm, if_pos (by simpa using h), List.map_append]
      rfl
    · rename_i h
      refine hN _ _ ⟨rfl, ?_⟩
      rw [filter_take hm, if_neg (by simpa using h), List.append_nil]
  · rintro acc S' ⟨rfl, rfl⟩
    rw [List.length_map, List.take_length]
    refine ⟨get_app, ?_⟩
    walk_at "dl"
    have z := Ends0.last (n := S.length) (Q := Q) (S := S) (T := [stro (marks r.body), stro (marks [r.head]), stro (opens r)]) (k := 2) (Nat.le_refl _) cl rfl (pureL_strs _) q
    exact z
end K09

namespace K09
open PySem PySem.Spec PyProof.Rows L2 TL DL
local macro_rules | `(tactic| walk_at "dl") => `(tactic| try simp (config := { decide := false }) only [e_seq, e_asg, e_nm, e_op, e_un, e_cb, e_c, e_var, e_ifs, e_tru, e_B, e_drop, e_bm, e_bm0, e_ret, e_retN, e_next, e_break, e_cont, e_nil, e_cons, e_tup, e_lst, e_sl, e_onone, e_osome, e_gsub, e_call, e_callk, e_and, e_or, e_not, e_andv, e_orv, e_notv, e_notU, e_isI, e_isS, e_isT, e_isR, e_isN, e_if, e_par, e_for, e_comp, e_iseq, e_rng1, e_yes, e_gtp, e_gc, e_gn0,
  e_addI, e_addS, e_addT, e_addL, e_i20, e_i2, e_neg, e_cmpI, e_cmpS, e_eqI, e_eqS, e_eqB, e_ixT, e_ixLit, e_ixL, e_ixS, e_set, e_ixAT, e_ixALit, e_ixAL, e_ixAS, e_ixAD, e_setAL, e_setAD, e_dict0, e_inAL, e_inAT, e_inAD, e_inAS, e_listAT, e_listALit, e_listAL, e_listAD, e_max2, e_extend, e_isalpha, e_enum, keyW, sz0, sz1, sz2, sz3, sz4, sz5, sz6, O.dk.injEq, e_slT, e_slLit, e_slS, e_slL, e_lenAS, e_lenAT, e_lenALit, e_lenAL, e_lenAD, e_lenS, e_lenT, e_lenLit, e_lenL, e_i1, e_intI, e_intB, e_strI, e_strS, e_listT, e_listLit, e_listL, e_tupleT, e_tupleL, e_append, e_pop0, e_tyL, e_tyS, e_truL, e_truT, e_truB, e_truI, e_truS, e_truN, e_seqT, e_seqLit, e_seqL, e_in, e_inT, e_isi, kit_ll, kit_ss, tyW_L, tyW_S, tyW_T, tyW_I, tyW_B, cut_to1, cut_to2, cut_from1, wipeW_nil, wipeW_cons, Nat.reduceAdd, eq_self, List.map_cons, List.map_nil,
  atI_0, atI_1, atI_2, atI_3, atI_end, ixN_0, ixN_1, ixN_11, ixN_last, List.map_append, List.map_cons, List.map_nil, get_app, get_app0, set_app, set_app0, List.cons_append, List.nil_append, List.append_assoc, List.length_append, List.length_cons, List.length_nil, Nat.zero_add, List.length_map, List.length_set,
  List.getElem?_cons_zero, List.getElem?_cons_succ, List.set_cons_zero, List.set_cons_succ, Option.some.injEq, exists_eq_left', exists_eq_left, exists_and_left, W.int.injEq, W.bl.injEq, W.str.injEq, W.tup.injEq, W.ref.injEq, O.lst.injEq, List.cons.injEq, reduceCtorEq, false_and, exists_false, or_false, false_or, true_and, and_true, decide_eq_true_eq, Bool.false_xor, Bool.true_xor, Bool.not_eq_true', decide_eq_false_iff_not, List.isEmpty_cons, List.isEmpty_nil, Bool.not_true, Bool.not_false, if_true, if_false, not_true_eq_false, not_false_eq_true, ne_eq, Bool.false_eq_true, reduceIte])

/-! ### _law_same -/
theorem kit_ib : kitB "int" "bool" = some false := by decide +kernel
theorem kit_it : kitB "int" "tuple" = some false := by decide +kernel
theorem kit_il : kitB "int" "list" = some false := by decide +kernel
theorem kit_is : kitB "int" "str" = some false := by decide +kernel
theorem kit_sb : kitB "str" "bool" = some false := by decide +kernel
theorem kit_st : kitB "str" "tuple" = some false := by decide +kernel
theorem kit_sl : kitB "str" "list" = some false := by decide +kernel
theorem kit_tb : kitB "tuple" "bool" = some false := by decide +kernel
theorem kit_tl : kitB "tuple" "list" = some false := by decide +kernel
def plain : Nat → DL.W → Bool
  | 0, _ => false
  | n + 1, .int _ => true
  | n + 1, .str _ => true
  | n + 1, .tup ws => decide (ws.length ≤ 1000) && ws.all (plain n)
  | n + 1, _ => false
def F_same (n : Nat) : DSpec := fun ws S Q => ∃ w, ws = [w, w] ∧ plain n w = true ∧ Q (.bl true) S
theorem vc_same (n : Nat) : ∀ ws S Q, Closed S → F_same (n + 1) ws S Q → d_law_same (F_same n) (endsW S.length Q) (startW N_law_same.length ws) S := by
  rintro ws S Q cl ⟨w, rfl, hp, q⟩
  show d_law_same (F_same n) _ [some w, some w, none] _
  unfold d_law_same
  cases w with
  | int i =>
    walk_at "dl"
    simp only [e_isi (w := .int i) rfl kit_ib, e_isi (w := .int i) rfl kit_it, e_isi (w := .int i) rfl kit_il, e_isi (w := .int i) rfl kit_is, e_isi (w := .int i) rfl kit_ii]
    walk_at "dl"
    exact Ends0.keep (Nat.le_refl _) cl rfl q
  | str z =>
    walk_at "dl"
    simp only [e_isi (w := .str z) rfl kit_sb, e_isi (w := .str z) rfl kit_st, e_isi (w := .str z) rfl kit_sl, e_isi (w := .str z) rfl kit_ss]
    walk_at "dl"
    exact Ends0.keep (Nat.le_refl _) cl rfl q
  | tup us =>
    walk_at "dl"
    simp only [e_isi (w := .tup us) rfl kit_tb, e_isi (w := .tup us) rfl kit_tt, e_isi (w := .tup us) rfl kit_tl]
    walk_at "dl"
    have hp2 : us.length ≤ 1000 ∧ us.all (plain n) = true := by
      have h : (decide (us.length ≤ 1000) && us.all (plain n)) = true := hp
      rw [Bool.and_eq_true, decide_eq_true_eq] at h
      exact h
    refine ⟨by omega, by omega, ?_⟩
    refine compW_inv (fun i acc S' => S' = S ∧ acc = []) ⟨rfl, rfl⟩ ?_ ?_
    · rintro i x acc S' hx ⟨rfl, rfl⟩ N hN
      obtain ⟨hi, rfl⟩ := rng_get hx
      have hi2 : i < us.length := by omega
      refine ⟨trivial, ?_⟩
      walk_at "dl"
      have hat : atI us (i : Int) = some us[i] := atI_nat (List.getElem?_eq_getElem hi2)
      rw [e_ixAT hat]
      rw [e_ixAT hat]
      refine ⟨us[i], rfl, List.all_eq_true.mp hp2.2 _ (List.getElem_mem hi2), ?_⟩
      walk_at "dl"
      exact hN _ _ ⟨rfl, rfl⟩
    · rintro acc S' ⟨rfl, rfl⟩
      refine ⟨trivial, ?_⟩
      walk_at "dl"
      exact Ends0.drop _ (Nat.le_refl _) cl rfl q
  | _ => cases hp
theorem same_ok {n : Nat} {w w2 : DL.W} {S : Sto} {Q : WK} (e : w = w2) (h : plain n w = true) (q : Q (.bl true) S) : F_same n [w, w2] S Q := ⟨w, by rw [e], h, q⟩
end K09

namespace K09
open PySem PySem.Spec PyProof.Rows L2 TL DL
local macro_rules | `(tactic| walk_at "dl") => `(tactic| try simp (config := { decide := false }) only [e_seq, e_asg, e_nm, e_op, e_un, e_cb, e_c, e_var, e_ifs, e_tru, e_B, e_drop, e_bm, e_bm0, e_ret, e_retN, e_next, e_break, e_cont, e_nil, e_cons, e_tup, e_lst, e_sl, e_onone, e_osome, e_gsub, e_call, e_callk, e_and, e_or, e_not, e_andv, e_orv, e_notv, e_notU, e_isI, e_isS, e_isT, e_isR, e_isN, e_if, e_par, e_for, e_comp, e_iseq, e_rng1, e_yes, e_gtp, e_gc, e_gn0,
  e_addI, e_addS, e_addT, e_addL, e_i20, e_i2, e_neg, e_cmpI, e_cmpS, e_eqI, e_eqS, e_eqB, e_ixT, e_ixLit, e_ixL, e_ixS, e_set, e_ixAT, e_ixALit, e_ixAL, e_ixAS, e_ixAD, e_setAL, e_setAD, e_dict0, e_inAL, e_inAT, e_inAD, e_inAS, e_listAT, e_listALit, e_listAL, e_listAD, e_max2, e_extend, e_isalpha, e_enum, keyW, sz0, sz1, sz2, sz3, sz4, sz5, sz6, O.dk.injEq, e_slT, e_slLit, e_slS, e_slL, e_lenAS, e_lenAT, e_lenALit, e_lenAL, e_lenAD, e_lenS, e_lenT, e_lenLit, e_lenL, e_i1, e_intI, e_intB, e_strI, e_strS, e_listT, e_listLit, e_listL, e_tupleT, e_tupleL, e_append, e_pop0, e_tyL, e_tyS, e_truL, e_truT, e_truB, e_truI, e_truS, e_truN, e_seqT, e_seqLit, e_seqL, e_in, e_inT, e_isi, kit_ll, kit_ss, tyW_L, tyW_S, tyW_T, tyW_I, tyW_B, cut_to1, cut_to2, cut_from1, wipeW_nil, wipeW_cons, Nat.reduceAdd, eq_self, List.map_cons, List.map_nil,
  atI_0, atI_1, atI_2, atI_3, atI_4, atI_5, atI_end, ixN_0, ixN_1, ixN_11, ixN_last, List.map_append, List.map_cons, List.map_nil, get_app, get_app0, set_app, set_app0, List.cons_append, List.nil_append, List.append_assoc, List.length_append, List.length_cons, List.length_nil, Nat.zero_add, List.length_map, List.length_set,
  List.getElem?_cons_zero, List.getElem?_cons_succ, List.set_cons_zero, List.set_cons_succ, Option.some.injEq, exists_eq_left', exists_eq_left, exists_and_left, W.int.injEq, W.bl.injEq, W.str.injEq, W.tup.injEq, W.ref.injEq, O.lst.injEq, List.cons.injEq, reduceCtorEq, false_and, exists_false, or_false, false_or, true_and, and_true, decide_eq_true_eq, Bool.false_xor, Bool.true_xor, Bool.not_eq_true', decide_eq_false_iff_not, List.isEmpty_cons, List.isEmpty_nil, Bool.not_true, Bool.not_false, if_true, if_false, not_true_eq_false, not_false_eq_true, ne_eq, Bool.false_eq_true, reduceIte])

/-! ### linked_names -/
def Rule.names (r : Rule) : List Str := r.head.t :: r.body.map Row.t
def Kept.names (r : Kept) : List Str := r.t :: r.body.map Row.t
def links (h : House) : List (List Str) := h.rules.map Rule.names ++ h.kept.map Kept.names
structure OkHouse0 (h : House) : Prop where
  rules : ∀ r ∈ h.rules, OkRule r ∧ r.body.length ≤ 100
  kept : ∀ r ∈ h.kept, r.body.length ≤ 100
  nr : h.rules.length ≤ 100
  nk : h.kept.length ≤ 100
def refsFrom (b n : Nat) : List DL.W := (List.range n).map fun k => .ref (b + k)
def F_linked : DSpec := fun ws S Q => ∃ h, ws = [House.enc h] ∧ OkHouse0 h ∧ Q (.ref (S.length + (links h).length)) (S ++ ((links h).map stro ++ [.lst (refsFrom S.length (links h).length)]))
/-- the lists at ps are those of Ls -/
structure LinkAt (S : Sto) (S' : Sto) (ps : List Nat) (Ls : List (List Str)) : Prop where
  len : ps.length = Ls.length
  nd : ps.Nodup
  lo : ∀ p ∈ ps, S.length < p
  hi : ∀ p ∈ ps, p < S'.length
  at_ : ∀ (k p : Nat) (l : List Str), ps[k]? = some p → Ls[k]? = some l → S'[p]? = some (stro l)
  pre : ∃ G, S' = S ++ (.lst (ps.map W.ref) :: G)
theorem LinkAt.add {S S' : Sto} {ps : List Nat} {Ls : List (List Str)} {l : List Str} {a b : O} (h : LinkAt S S' ps Ls) :
    LinkAt S ((S' ++ [a, b, stro l]).set S.length (.lst (ps.map W.ref ++ [.ref (S'.length + 1 + 1)]))) (ps ++ [S'.length + 1 + 1]) (Ls ++ [l]) := by
  obtain ⟨G, hG⟩ := h.pre
  have hs : S.length < S'.length := by rw [hG, List.length_append, List.length_cons]; omega
  refine ⟨by simp [h.len], ?_, ?_, ?_, ?_, ⟨G ++ [a, b, stro l], ?_⟩⟩
  · exact List.nodup_append.mpr ⟨h.nd, by simp, fun x hx y hy e => by
      rw [List.mem_singleton.mp hy] at e
      have := h.hi x hx
      omega⟩
  · intro p hp
    rcases List.mem_append.mp hp with hp | hp
    · exact h.lo p hp
    · rw [List.mem_singleton.mp hp]
      omega
  · intro p hp
    rw [List.length_set, List.length_append]
    show p < S'.length + 3
    rcases List.mem_append.mp hp with hp | hp
    · have := h.hi p hp
      omega
    · rw [List.mem_singleton.mp hp]
      omega
  · intro k p l' hp hl
    by_cases hk : k < ps.length
    · rw [List.getElem?_append_left hk] at hp
      rw [List.getElem?_append_left (by rw [← h.len]; exact hk)] at hl
      have hm := List.mem_of_getElem? hp
      have h1 := h.lo p hm
      have h2 := h.hi p hm
      rw [List.getElem?_set_ne (by omega), List.getElem?_append_left h2]
      exact h.at_ k p l' hp hl
    · have hk2 : k < ps.length + 1 := by
        have := (List.getElem?_eq_some_iff.mp hp).1
        rwa [List.length_append] at this
      have e : k = ps.length := by omega
      subst e
      rw [get_app0] at hp
      rw [h.len, get_app0] at hl
      cases Option.some.inj hp
      cases Option.some.inj hl
      rw [List.getElem?_set_ne (by omega), List.getElem?_append_right (by omega)]
      have e2 : S'.length + 1 + 1 - S'.length = 2 := by omega
      rw [e2]
      rfl
  · subst hG
    rw [List.append_assoc, List.cons_append, set_app0, List.map_append]
    rfl
theorem bndL_of {n : Nat} {ws : List DL.W} (h : ∀ w ∈ ws, w.bnd n = true) : W.bndL n ws = true := by
  induction ws with
  | nil => rfl
  | cons w ws ih =>
    show (W.bnd n w && W.bndL n ws) = true
    rw [h w (List.mem_cons_self ..), ih fun x hx => h x (List.mem_cons_of_mem _ hx)]
    rfl
theorem link_step {S S' : Sto} {ps : List Nat} {Ls : List (List Str)} {t : Str} {body : List Row} {env : Slots} {N : Slots → Sto → Prop} (hL : LinkAt S S' ps Ls) (hb : body.length ≤ 100) (hn : Ls.length ≤ 1000) (h7 : 7 < env.length)
    (hN : ∀ s, LinkAt S s (ps ++ [S'.length + 1 + 1]) (Ls ++ [t :: body.map Row.t]) → N env s) :
    compW (gNm 7) dYes (dOp vIxA (dVar 7) (dC (.int 0))) [7] (fun _ => True) env (fun y S2 => vAdd (.ref S'.length) y S2 fun w S1 => vAppend (.ref S.length) [w] S1 fun _ S1 => N env S1) (body.map fun r => .tup [.str r.t, .tup (r.ms.map W.str)]) [] (S' ++ [.lst [.str t]]) := by
  obtain ⟨G, hG⟩ := hL.pre
  have hs : S.length < S'.length := by rw [hG, List.length_append, List.length_cons]; omega
  have hget : S'[S.length]? = some (.lst (ps.map W.ref)) := by rw [hG]; exact get_app0
  refine compW_map (r := fun r : Row => .str r.t) trivial (le_sz (by omega)) ?_ ?_
  · intro r hr N acc ha hN
    walk_at "dl"
    refine ⟨.tup [.str r.t, .tup (r.ms.map W.str)], ?_, ?_⟩
    · show ((env.set 7 none).set 7 _)[7]? = _
      rw [List.set_set, List.getElem?_set_self h7]
    · walk_at "dl"
      exact ⟨ha, hN⟩
  · have eS : (S' ++ [.lst [.str t]]) ++ [.lst (body.map fun r : Row => .str r.t)] = S' ++ [.lst [.str t], .lst (body.map fun r : Row => .str r.t)] := by rw [List.append_assoc]; rfl
    have hl : (S' ++ [O.lst [DL.W.str t]]).length = S'.length + 1 := by simp
    rw [eS, hl, e_addL (a := [.str t]) (b := body.map fun r : Row => .str r.t) get_app0 get_app]
    refine ⟨le_sz (by rw [List.length_map]; show 1 + _ ≤ _; omega), ?_⟩
    have eS2 : (S' ++ [.lst [.str t], .lst (body.map fun r : Row => .str r.t)]) ++ [.lst ([.str t] ++ body.map fun r : Row => .str r.t)] = S' ++ [.lst [.str t], .lst ((body.map Row.t).map W.str), stro (t :: body.map Row.t)] := by
      rw [List.append_assoc, List.map_map]
      show _ ++ [_, _, O.lst (DL.W.str t :: _)] = _ ++ [_, _, O.lst (DL.W.str t :: _)]
      rw [List.map_map]
      rfl
    have hl2 : (S' ++ [O.lst [DL.W.str t], O.lst (body.map fun r : Row => DL.W.str r.t)]).length = S'.length + 1 + 1 := by simp
    rw [eS2, hl2, e_append (ws := ps.map W.ref) (by rw [List.getElem?_append_left hs]; exact hget)]
    refine ⟨lt_sz (by rw [List.length_map, hL.len]; omega), hN _ ?_⟩
    exact hL.add
theorem vc_linked : ∀ ws S Q, Closed S → F_linked ws S Q → d_linked_names (endsW S.length Q) (startW N_linked_names.length ws) S := by
  rintro ws S Q cl ⟨h, rfl, ok, q⟩
  show d_linked_names _ [some _, none, none, none, none, none, none, none] _
  unfold d_linked_names House.enc
  walk_at "dl"
  refine forW_inv (fun i env S' => ∃ ps x2 x3 x4 x5 x6 x7, LinkAt S S' ps ((h.rules.take i).map Rule.names) ∧ env = [some (House.enc h), some (.ref S.length), x2, x3, x4, x5, x6, x7])
    ⟨[], _, _, _, _, _, _, ⟨rfl, List.nodup_nil, (by intro p hp; cases hp), (by intro p hp; cases hp), (by intro k p l hp; cases hp), ⟨[], rfl⟩⟩, rfl⟩ ?_ ?_
  · rintro i x env S' hx ⟨ps, x2, x3, x4, x5, x6, x7, hL, rfl⟩ N hN
    obtain ⟨r, hr, rfl, hmem, hi⟩ := map_get hx
    refine ⟨trivial, ?_⟩
    obtain ⟨G, hG⟩ := hL.pre
    have hget : S'[S.length]? = some (.lst (ps.map W.ref)) := by rw [hG]; exact get_app0
    unfold Rule.enc
    walk_at "dl"
    refine ⟨.inl ⟨rfl, _, hget⟩, ?_⟩
    unfold Row.enc
    walk_at "dl"
    have hnr := ok.nr
    refine link_step hL (ok.rules r hmem).2 (by rw [List.length_map, List.length_take]; omega) (by simp) fun s hs => hN _ _ ⟨ps ++ [S'.length + 1 + 1], _, _, _, _, _, _, ?_, rfl⟩
    rw [List.take_add_one, hr, List.map_append]
    exact hs
  · rintro env S' ⟨ps, x2, x3, x4, x5, x6, x7, hL, rfl⟩
    rw [List.length_map, List.take_length] at hL
    refine ⟨trivial, ?_⟩
    unfold House.enc
    walk_at "dl"
    refine forW_inv (fun i env S' => ∃ ps x2 x3 x4 x5 x6 x7, LinkAt S S' ps (h.rules.map Rule.names ++ (h.kept.take i).map Kept.names) ∧ env = [some (House.enc h), some (.ref S.length), x2, x3, x4, x5, x6, x7])
      ⟨ps, _, _, _, _, _, _, by simpa using hL, rfl⟩ ?_ ?_
    · rintro i x env S' hx ⟨ps, x2, x3, x4, x5, x6, x7, hL, rfl⟩ N hN
      obtain ⟨r, hr, rfl, hmem, hi⟩ := map_get hx
      refine ⟨trivial, ?_⟩
      obtain ⟨G, hG⟩ := hL.pre
      have hget : S'[S.length]? = some (.lst (ps.map W.ref)) := by rw [hG]; exact get_app0
      unfold Kept.enc
      walk_at "dl"
      refine ⟨.inl ⟨rfl, _, hget⟩, ?_⟩
      unfold Row.enc
      walk_at "dl"
      have hnr := ok.nr
      have hnk := ok.nk
      refine link_step hL (ok.kept r hmem) (by rw [List.length_append, List.length_map, List.length_map, List.length_take]; omega) (by simp) fun s hs => hN _ _ ⟨ps ++ [S'.length + 1 + 1], _, _, _, _, _, _, ?_, rfl⟩
      rw [List.take_add_one, hr, List.map_append, ← List.append_assoc]
      exact hs
    · rintro env S' ⟨ps, x2, x3, x4, x5, x6, x7, hL, rfl⟩
      rw [List.length_map, List.take_length] at hL
      refine ⟨trivial, ?_⟩
      walk_at "dl"
      have eL : h.rules.map Rule.names ++ h.kept.map Kept.names = links h := rfl
      rw [eL] at hL
      obtain ⟨G, hG⟩ := hL.pre
      have hget : S'[S.length]? = some (.lst (ps.map W.ref)) := by rw [hG]; exact get_app0
      have hpl : ps.length = (links h).length := hL.len
      have hf1 : ∀ i, i < S.length → (List.range S.length ++ (ps ++ [S.length]))[i]? = some i := fun i hi => by
        rw [List.getElem?_append_left (by rw [List.length_range]; exact hi)]
        exact List.getElem?_range hi
      have hfp : ∀ k, k < ps.length → (List.range S.length ++ (ps ++ [S.length]))[S.length + k]? = ps[k]? := fun k hk => by
        have z := get_app (R := List.range S.length) (L := ps ++ [S.length]) (k := k)
        rw [List.length_range] at z
        rw [z, List.getElem?_append_left hk]
      have hfl : (List.range S.length ++ (ps ++ [S.length]))[S.length + ps.length]? = some S.length := by
        have z := get_app (R := List.range S.length) (L := ps ++ [S.length]) (k := ps.length)
        rw [List.length_range] at z
        rw [z, get_app0]
        rfl
      have hlen : (List.range S.length ++ (ps ++ [S.length])).length = (S ++ ((links h).map stro ++ [O.lst (refsFrom S.length (links h).length)])).length := by
        simp [hpl]
      refine ⟨List.range S.length ++ (ps ++ [S.length]), _, .ref (S.length + (links h).length), hlen, hf1, ?_, ?_, ?_, ?_, q⟩
      · refine List.nodup_append.mpr ⟨List.nodup_range, List.nodup_append.mpr ⟨hL.nd, by simp, fun x hx y hy e => ?_⟩, fun x hx y hy e => ?_⟩
        · rw [List.mem_singleton.mp hy] at e
          have := hL.lo x hx
          omega
        · have hx2 := List.mem_range.mp hx
          rcases List.mem_append.mp hy with hy | hy
          · have := hL.lo y hy
            omega
          · rw [List.mem_singleton.mp hy] at e
            omega
      · intro i o ho
        rw [hlen]
        by_cases h1 : i < S.length
        · rw [List.getElem?_append_left h1] at ho
          have hc := cl i o ho
          refine ⟨O_bnd_mono (by simp) _ hc, i, hf1 i h1, ?_⟩
          rw [hG, List.getElem?_append_left h1, ho, O_ren_ext hf1 o hc]
        · have e1 : i = S.length + (i - S.length) := by omega
          rw [e1, get_app] at ho
          by_cases h2 : i - S.length < (links h).length
          · rw [List.getElem?_append_left (by rw [List.length_map]; exact h2), List.getElem?_map] at ho
            obtain ⟨l, hl1, rfl⟩ := Option.map_eq_some_iff.mp ho
            have hp : i - S.length < ps.length := by rw [hpl]; exact h2
            refine ⟨bndL_strs _ _, ps[i - S.length], ?_, ?_⟩
            · exact (congrArg (fun j => (List.range S.length ++ (ps ++ [S.length]))[j]?) e1).trans ((hfp _ hp).trans (List.getElem?_eq_getElem hp))
            · show _ = some (O.lst (W.renL _ _))
              rw [renL_pure _ _ (pureL_strs _)]
              exact hL.at_ _ _ _ (List.getElem?_eq_getElem hp) hl1
          · have h3 : i - S.length = (links h).length := by
              have := (List.getElem?_eq_some_iff.mp ho).1
              rw [List.length_append, List.length_map] at this
              simp at this
              omega
            have z := get_app0 (R := (links h).map stro) (L := [O.lst (refsFrom S.length (links h).length)])
            rw [List.length_map] at z
            rw [h3, z] at ho
            cases Option.some.inj ho
            refine ⟨?_, S.length, ?_, ?_⟩
            · show W.bndL _ (refsFrom _ _) = true
              refine bndL_of fun w hw => ?_
              obtain ⟨k, hk, rfl⟩ := List.mem_map.mp hw
              have := List.mem_range.mp hk
              show decide (_ < _) = true
              simp
              omega
            · rw [e1, h3, ← hpl]
              exact hfl
            · rw [hget]
              show _ = some (O.lst (W.renL _ (refsFrom _ _)))
              congr 2
              rw [renL_map, refsFrom, List.map_map]
              refine List.ext_getElem (by simp [hpl]) fun k hk1 hk2 => ?_
              have hk : k < ps.length := by simpa using hk1
              rw [List.getElem_map, List.getElem_map, List.getElem_range]
              show W.ref _ = W.ref (List.getD _ _ _)
              rw [List.getD_eq_getElem?_getD, hfp k hk, List.getElem?_eq_getElem hk]
              rfl
      · show W.ref S.length = .ref ((List.range S.length ++ (ps ++ [S.length])).getD (S.length + (links h).length) 0)
        rw [List.getD_eq_getElem?_getD, ← hpl, hfl]
        rfl
      · show decide (_ < _) = true
        simp [hpl]
end K09

namespace K09
open PySem PySem.Spec PyProof.Rows L2 TL DL
local macro_rules | `(tactic| walk_at "dl") => `(tactic| try simp (config := { decide := false }) only [e_seq, e_asg, e_nm, e_op, e_un, e_cb, e_c, e_var, e_ifs, e_tru, e_B, e_drop, e_bm, e_bm0, e_ret, e_retN, e_next, e_break, e_cont, e_nil, e_cons, e_tup, e_lst, e_sl, e_onone, e_osome, e_gsub, e_call, e_callk, e_and, e_or, e_not, e_andv, e_orv, e_notv, e_notU, e_isI, e_isS, e_isT, e_isR, e_isN, e_if, e_par, e_for, e_comp, e_iseq, e_rng1, e_yes, e_gtp, e_gc, e_gn0,
  e_addI, e_addS, e_addT, e_addL, e_i20, e_i2, e_neg, e_cmpI, e_cmpS, e_eqI, e_eqS, e_eqB, e_ixT, e_ixLit, e_ixL, e_ixS, e_set, e_ixAT, e_ixALit, e_ixAL, e_ixAS, e_ixAD, e_setAL, e_setAD, e_dict0, e_inAL, e_inAT, e_inAD, e_inAS, e_listAT, e_listALit, e_listAL, e_listAD, e_max2, e_extend, e_isalpha, e_enum, keyW, sz0, sz1, sz2, sz3, sz4, sz5, sz6, O.dk.injEq, e_slT, e_slLit, e_slS, e_slL, e_lenAS, e_lenAT, e_lenALit, e_lenAL, e_lenAD, e_lenS, e_lenT, e_lenLit, e_lenL, e_i1, e_intI, e_intB, e_strI, e_strS, e_listT, e_listLit, e_listL, e_tupleT, e_tupleL, e_append, e_pop0, e_tyL, e_tyS, e_truL, e_truT, e_truB, e_truI, e_truS, e_truN, e_seqT, e_seqLit, e_seqL, e_in, e_inT, e_isi, kit_ll, kit_ss, tyW_L, tyW_S, tyW_T, tyW_I, tyW_B, cut_to1, cut_to2, cut_from1, wipeW_nil, wipeW_cons, Nat.reduceAdd, eq_self, List.map_cons, List.map_nil,
  atI_0, atI_1, atI_2, atI_3, atI_4, atI_5, atI_end, ixN_0, ixN_1, ixN_11, ixN_last, List.map_append, List.map_cons, List.map_nil, get_app, get_app0, set_app, set_app0, List.cons_append, List.nil_append, List.append_assoc, List.length_append, List.length_cons, List.length_nil, Nat.zero_add, List.length_map, List.length_set,
  List.getElem?_cons_zero, List.getElem?_cons_succ, List.set_cons_zero, List.set_cons_succ, Option.some.injEq, exists_eq_left', exists_eq_left, exists_and_left, W.int.injEq, W.bl.injEq, W.str.injEq, W.tup.injEq, W.ref.injEq, O.lst.injEq, List.cons.injEq, reduceCtorEq, false_and, exists_false, or_false, false_or, true_and, and_true, decide_eq_true_eq, Bool.false_xor, Bool.true_xor, Bool.not_eq_true', decide_eq_false_iff_not, List.isEmpty_cons, List.isEmpty_nil, Bool.not_true, Bool.not_false, if_true, if_false, not_true_eq_false, not_false_eq_true, ne_eq, Bool.false_eq_true, reduceIte])

/-! ### levels -/
def bodyAt (rules : List Rule) (n : Nat) : List Row := match rules[n]? with
  | some r => r.body
  | none => []
def lvBody (f : Str → Int) (m : Int) (body : List Row) : Int := body.foldl (fun m row => max m (f row.t + 1)) m
def lvFold (rules : List Rule) (f : Str → Int) (ns : List Nat) : Int := ns.foldl (fun m n => lvBody f m (bodyAt rules n)) 0
def lvOne (rules : List Rule) (f : Str → Int) (t : Str) : Int := lvFold rules f (intoN rules t)
def levStep (rules : List Rule) (f : Str → Int) (t : Str) : Str → Int := fun x => if x = t then lvOne rules f t else f x
def levF (rules : List Rule) (ts : List Str) : Str → Int := ts.foldl (levStep rules) (fun _ => 0)
abbrev House.names (h : House) : List Str := h.tabs.map (·.1)
structure OkHouse (h : House) : Prop extends OkHouse0 h where
  nd : h.names.Nodup
  nt : h.tabs.length ≤ 50
  low : ∀ r ∈ h.rules, ∀ i, h.names[i]? = some r.head.t → ∀ row ∈ r.body, row.t ∈ h.names.take i
  hd : ∀ r ∈ h.rules, r.head.t ∈ h.names
  kn : ∀ r ∈ h.kept, r.t ∈ h.names ∧ ∀ row ∈ r.body, row.t ∈ h.names
  okn : ∀ n ∈ h.names, OkN n
abbrev dkF (ns : List Str) (F : Str → Int) : O := .dk (ns.map fun n => (Sum.inr n, DL.W.int (F n)))
theorem dkF_val {ns : List Str} {F : Str → Int} {x : Str} (h : x ∈ ns) : valW (ns.map fun n => (Sum.inr n, DL.W.int (F n))) (.inr x) = some (.int (F x)) :=
  valW_map (f := fun n => DL.W.int (F n)) (g := fun x => x) (fun _ _ _ _ e => e) h rfl
theorem dkF_none {ns : List Str} {F : Str → Int} {x : Str} (h : x ∉ ns) : valW (ns.map fun n => (Sum.inr n, DL.W.int (F n))) (.inr x) = none :=
  valW_none (f := fun n => DL.W.int (F n)) (g := fun x => x) (fun a ha (e : a = x) => h (e ▸ ha))
theorem dkF_put {ns : List Str} {F : Str → Int} {x : Str} {v : Int} (h : x ∈ ns) : putW (ns.map fun n => (Sum.inr n, DL.W.int (F n))) (.inr x) (.int v) = ns.map fun n => (Sum.inr n, DL.W.int (if n = x then v else F n)) := by
  unfold putW
  rw [if_pos (List.any_eq_true.mpr ⟨(Sum.inr x, .int (F x)), List.mem_map.mpr ⟨x, h, rfl⟩, by simp⟩), List.map_map]
  refine List.map_congr_left fun y hy => ?_
  show (if (Sum.inr y : Key) = Sum.inr x then ((Sum.inr y : Key), DL.W.int v) else (Sum.inr y, DL.W.int (F y))) = _
  by_cases e : y = x
  · rw [if_pos (by rw [e]), if_pos e]
  · rw [if_neg (fun q => e (Sum.inr.inj q)), if_neg e]
theorem dkF_cong {ns : List Str} {F G : Str → Int} (h : ∀ n ∈ ns, F n = G n) : dkF ns F = dkF ns G := by
  unfold dkF
  congr 1
  exact List.map_congr_left fun n hn => by rw [h n hn]
theorem levF_snoc (rules : List Rule) (ts : List Str) (t : Str) : levF rules (ts ++ [t]) = levStep rules (levF rules ts) t := by
  unfold levF
  rw [List.foldl_append]
  rfl
theorem levF_out {rules : List Rule} {x : Str} : ∀ {ts : List Str}, x ∉ ts → levF rules ts x = 0 := by
  intro ts
  unfold levF
  have go : ∀ (ts : List Str) (f : Str → Int), x ∉ ts → (ts.foldl (levStep rules) f) x = f x := by
    intro ts
    induction ts with
    | nil => intro f _; rfl
    | cons t ts ih =>
      intro f h
      rw [List.foldl_cons, ih _ (fun m => h (List.mem_cons_of_mem _ m))]
      show (if x = t then _ else f x) = f x
      rw [if_neg (fun (e : x = t) => h (by rw [e]; exact List.mem_cons_self ..))]
  exact fun h => go ts _ h
def F_level : DSpec := fun ws S Q => ∃ h t, ws = [House.enc h, .str t] ∧ OkHouse h ∧ t ∈ h.names ∧ Q (.int (levF h.rules h.names t)) S
theorem take_snoc {α : Type} {l : List α} {i : Nat} {x : α} (h : l[i]? = some x) : l.take (i + 1) = l.take i ++ [x] := by
  rw [List.take_add_one, h]
  rfl
theorem not_in_take {l : List Str} (nd : l.Nodup) {i : Nat} {x : Str} (h : l[i]? = some x) : x ∉ l.take i := fun hm => by
  obtain ⟨hi, e2⟩ := List.getElem?_eq_some_iff.mp h
  have e : l = l.take i ++ x :: l.drop (i + 1) := by
    rw [← e2, ← List.drop_eq_getElem_cons hi, List.take_append_drop]
  rw [e] at nd
  exact (List.nodup_append.mp nd).2.2 x hm x (List.mem_cons_self ..) rfl
theorem lvBody_take {f : Str → Int} {m : Int} {body : List Row} {k : Nat} {row : Row} (h : body[k]? = some row) : lvBody f m (body.take (k + 1)) = max (lvBody f m (body.take k)) (f row.t + 1) := by
  unfold lvBody
  rw [take_snoc h, List.foldl_append]
  rfl
theorem lvFold_take {rules : List Rule} {f : Str → Int} {ns : List Nat} {k n : Nat} {r : Rule} (h : ns[k]? = some n) (hr : rules[n]? = some r) : lvFold rules f (ns.take (k + 1)) = lvBody f (lvFold rules f (ns.take k)) r.body := by
  unfold lvFold
  rw [take_snoc h, List.foldl_append]
  show lvBody f _ (bodyAt rules n) = _
  unfold bodyAt
  rw [hr]
theorem vc_level : ∀ ws S Q, Closed S → F_level ws S Q → d_level_of F_into (endsW S.length Q) (startW N_level_of.length ws) S := by
  rintro ws S Q cl ⟨h, t, rfl, ok, ht, q⟩
  show d_level_of F_into _ [some _, some _, none, none, none, none, none, none] _
  unfold d_level_of
  have hx0 : ∀ {S : Sto} {Q : WK}, vIxA (House.enc h) (.int 0) S Q = Q (.tup (h.tabs.map tabE)) S := e_ixAT rfl
  have hx3 : ∀ {S : Sto} {Q : WK}, vIxA (House.enc h) (.int 3) S Q = Q (.tup (h.rules.map Rule.enc)) S := e_ixAT rfl
  walk_at "dl"
  rw [hx0]
  walk_at "dl"
  refine forW_inv (fun i env S' => ∃ x3 x4 x5 x6 x7, S' = S ++ [dkF (h.names.take i) (levF h.rules (h.names.take i))] ∧ env = [some (House.enc h), some (.str t), some (.ref S.length), x3, x4, x5, x6, x7]) ⟨_, _, _, _, _, rfl, rfl⟩ ?_ ?_
  · rintro i x env S' hx ⟨x3, x4, x5, x6, x7, rfl, rfl⟩ N hN
    obtain ⟨tb, htb, rfl, _, hi⟩ := map_get hx
    have hni : h.names[i]? = some tb.1 := by rw [List.getElem?_map, htb]; rfl
    refine ⟨trivial, ?_⟩
    unfold tabE
    walk_at "dl"
    refine ⟨h, tb.1, rfl, ok.nr, ?_⟩
    walk_at "dl"
    refine forW_inv (fun k env S' => ∃ x6 x7, S' = S ++ [dkF (h.names.take i) (levF h.rules (h.names.take i))] ∧ env = [some (House.enc h), some (.str t), some (.ref S.length), some (.str tb.1), some (.int tb.2), some (.int (lvFold h.rules (levF h.rules (h.names.take i)) ((intoN h.rules tb.1).take k))), x6, x7]) ⟨_, _, rfl, rfl⟩ ?_ ?_
    · rintro k x env S' hx ⟨x6, x7, rfl, rfl⟩ N2 hN2
      obtain ⟨n, hn, rfl, hmem, hk⟩ := map_get hx
      refine ⟨trivial, ?_⟩
      obtain ⟨hn1, hn2⟩ := List.mem_filter.mp hmem
      have hnl := List.mem_range.mp hn1
      unfold natE
      walk_at "dl"
      rw [hx3]
      have hat : atI (h.rules.map Rule.enc) (n : Int) = some (h.rules[n].enc) := atI_nat (by rw [List.getElem?_map, List.getElem?_eq_getElem hnl]; rfl)
      rw [e_ixAT hat]
      unfold Rule.enc
      walk_at "dl"
      have hrn : h.rules[n]? = some h.rules[n] := List.getElem?_eq_getElem hnl
      have hhead : h.rules[n].head.t = tb.1 := by
        unfold isInto at hn2
        rw [hrn] at hn2
        exact of_decide_eq_true hn2
      have hrm : h.rules[n] ∈ h.rules := List.getElem_mem hnl
      refine forW_inv (fun j env S' => ∃ x7, S' = S ++ [dkF (h.names.take i) (levF h.rules (h.names.take i))] ∧ env = [some (House.enc h), some (.str t), some (.ref S.length), some (.str tb.1), some (.int tb.2), some (.int (lvBody (levF h.rules (h.names.take i)) (lvFold h.rules (levF h.rules (h.names.take i)) ((intoN h.rules tb.1).take k)) (h.rules[n].body.take j))), some (.int (n : Int)), x7]) ⟨_, rfl, rfl⟩ ?_ ?_
      · rintro j x env S' hx ⟨x7, rfl, rfl⟩ N3 hN3
        obtain ⟨row, hrow, rfl, hrowm, hj⟩ := map_get hx
        refine ⟨trivial, ?_⟩
        unfold Row.enc
        walk_at "dl"
        have hin : row.t ∈ h.names.take i := ok.low _ hrm i (by rw [hhead]; exact hni) row hrowm
        rw [e_ixAD get_app0 rfl (dkF_val hin)]
        walk_at "dl"
        have z := hN3 _ _ ⟨some (.tup [.str row.t, .tup (row.ms.map W.str)]), rfl, rfl⟩
        rw [lvBody_take hrow] at z
        exact z
      · rintro env S' ⟨x7, rfl, rfl⟩
        rw [List.length_map, List.take_length]
        refine ⟨trivial, ?_⟩
        have z := hN2 _ _ ⟨some (.int (n : Int)), x7, rfl, rfl⟩
        rw [lvFold_take hn hrn] at z
        exact z
    · rintro env S' ⟨x6, x7, rfl, rfl⟩
      rw [List.length_map, List.take_length]
      refine ⟨trivial, ?_⟩
      walk_at "dl"
      rw [putW_new (dkF_none (not_in_take ok.nd hni))]
      refine ⟨lt_sz (by rw [List.length_take]; have := ok.nt; rw [List.length_map]; omega), hN _ _ ⟨_, _, _, _, _, ?_, rfl⟩⟩
      congr 2
      rw [take_snoc hni, levF_snoc]
      have e1 : dkF (h.names.take i ++ [tb.1]) (levStep h.rules (levF h.rules (h.names.take i)) tb.1) = .dk ((h.names.take i).map (fun n => (Sum.inr n, DL.W.int (levStep h.rules (levF h.rules (h.names.take i)) tb.1 n))) ++ [(Sum.inr tb.1, DL.W.int (levStep h.rules (levF h.rules (h.names.take i)) tb.1 tb.1))]) := by
        show O.dk _ = _
        rw [List.map_append]
        rfl
      rw [e1]
      congr 2
      · refine List.map_congr_left fun n hn => ?_
        show _ = (Sum.inr n, DL.W.int (if n = tb.1 then _ else _))
        rw [if_neg (fun (e : n = tb.1) => not_in_take ok.nd hni (e ▸ hn))]
      · show [(Sum.inr tb.1, DL.W.int (lvFold _ _ _))] = [(Sum.inr tb.1, DL.W.int (if tb.1 = tb.1 then _ else _))]
        rw [if_pos rfl]
        rfl
  · rintro env S' ⟨x3, x4, x5, x6, x7, rfl, rfl⟩
    rw [List.length_map]
    refine ⟨trivial, ?_⟩
    walk_at "dl"
    have eT : h.names.take h.tabs.length = h.names := List.take_of_length_le (by rw [List.length_map]; exact Nat.le_refl _)
    rw [eT, e_ixAD get_app0 rfl (dkF_val ht)]
    exact Ends0.drop _ (Nat.le_refl _) cl rfl q
end K09

namespace K09
open PySem PySem.Spec PyProof.Rows L2 TL DL
local macro_rules | `(tactic| walk_at "dl") => `(tactic| try simp (config := { decide := false }) only [e_seq, e_asg, e_nm, e_op, e_un, e_cb, e_c, e_var, e_ifs, e_tru, e_B, e_drop, e_bm, e_bm0, e_ret, e_retN, e_next, e_break, e_cont, e_nil, e_cons, e_tup, e_lst, e_sl, e_onone, e_osome, e_gsub, e_call, e_callk, e_and, e_or, e_not, e_andv, e_orv, e_notv, e_notU, e_isI, e_isS, e_isT, e_isR, e_isN, e_if, e_par, e_for, e_comp, e_iseq, e_rng1, e_yes, e_gtp, e_gc, e_gn0,
  e_addI, e_addS, e_addT, e_addL, e_i20, e_i2, e_neg, e_cmpI, e_cmpS, e_eqI, e_eqS, e_eqB, e_ixT, e_ixLit, e_ixL, e_ixS, e_set, e_ixAT, e_ixALit, e_ixAL, e_ixAS, e_ixAD, e_setAL, e_setAD, e_dict0, e_inAL, e_inAT, e_inAD, e_inAS, e_listAT, e_listALit, e_listAL, e_listAD, e_max2, e_extend, e_isalpha, e_enum, keyW, sz0, sz1, sz2, sz3, sz4, sz5, sz6, O.dk.injEq, e_slT, e_slLit, e_slS, e_slL, e_lenAS, e_lenAT, e_lenALit, e_lenAL, e_lenAD, e_lenS, e_lenT, e_lenLit, e_lenL, e_i1, e_intI, e_intB, e_strI, e_strS, e_listT, e_listLit, e_listL, e_tupleT, e_tupleL, e_append, e_pop0, e_tyL, e_tyS, e_truL, e_truT, e_truB, e_truI, e_truS, e_truN, e_seqT, e_seqLit, e_seqL, e_in, e_inT, e_isi, kit_ll, kit_ss, tyW_L, tyW_S, tyW_T, tyW_I, tyW_B, cut_to1, cut_to2, cut_from1, wipeW_nil, wipeW_cons, Nat.reduceAdd, eq_self, List.map_cons, List.map_nil,
  atI_0, atI_1, atI_2, atI_3, atI_4, atI_5, atI_end, ixN_0, ixN_1, ixN_11, ixN_last, List.map_append, List.map_cons, List.map_nil, get_app, get_app0, set_app, set_app0, List.cons_append, List.nil_append, List.append_assoc, List.length_append, List.length_cons, List.length_nil, Nat.zero_add, List.length_map, List.length_set,
  List.getElem?_cons_zero, List.getElem?_cons_succ, List.set_cons_zero, List.set_cons_succ, Option.some.injEq, exists_eq_left', exists_eq_left, exists_and_left, W.int.injEq, W.bl.injEq, W.str.injEq, W.tup.injEq, W.ref.injEq, O.lst.injEq, List.cons.injEq, reduceCtorEq, false_and, exists_false, or_false, false_or, true_and, and_true, decide_eq_true_eq, Bool.false_xor, Bool.true_xor, Bool.not_eq_true', decide_eq_false_iff_not, List.isEmpty_cons, List.isEmpty_nil, Bool.not_true, Bool.not_false, if_true, if_false, not_true_eq_false, not_false_eq_true, ne_eq, Bool.false_eq_true, reduceIte])

/-! ### _law_levels -/
theorem merge_nodup : ∀ {ns : List Str} {F : Str → Int} {acc : List Str}, (acc ++ ns).Nodup → mergeW (acc.map fun n => (Sum.inr n, DL.W.int (F n))) (ns.map fun n => (Sum.inr n, DL.W.int (F n))) = (acc ++ ns).map fun n => (Sum.inr n, DL.W.int (F n))
  | [], F, acc, _ => by
    rw [List.append_nil]
    rfl
  | n :: ns, F, acc, h => by
    have hn : n ∉ acc := fun hm => (List.nodup_append.mp h).2.2 n hm n (List.mem_cons_self ..) rfl
    have h2 : ((acc ++ [n]) ++ ns).Nodup := by rw [List.append_assoc]; exact h
    have ih := merge_nodup (F := F) h2
    show mergeW (putW _ (.inr n) (.int (F n))) _ = _
    rw [putW_new (dkF_none hn)]
    have e : (acc.map fun n => ((Sum.inr n : Key), DL.W.int (F n))) ++ [(Sum.inr n, .int (F n))] = (acc ++ [n]).map fun n => (Sum.inr n, DL.W.int (F n)) := by rw [List.map_append]; rfl
    rw [e, ih, List.append_assoc]
    rfl
theorem max_fold : ∀ (l : List Int) (a m : Int), m ∈ a :: l → (∀ y ∈ a :: l, y ≤ m) → m = l.foldl max a
  | [], a, m, h, _ => List.mem_singleton.mp h
  | b :: l, a, m, h, hm => by
    rw [List.foldl_cons]
    refine max_fold l (max a b) m ?_ fun y hy => ?_
    · have ha := hm a (List.mem_cons_self ..)
      have hb := hm b (List.mem_cons_of_mem _ (List.mem_cons_self ..))
      rcases List.mem_cons.mp h with e | h
      · have e2 : max a b = a := by omega
        rw [e2, e]
        exact List.mem_cons_self ..
      · rcases List.mem_cons.mp h with e | h
        · have e2 : max a b = b := by omega
          rw [e2, e]
          exact List.mem_cons_self ..
        · exact List.mem_cons_of_mem _ h
    · rcases List.mem_cons.mp hy with e | hy
      · have ha := hm a (List.mem_cons_self ..)
        have hb := hm b (List.mem_cons_of_mem _ (List.mem_cons_self ..))
        omega
      · exact hm y (List.mem_cons_of_mem _ (List.mem_cons_of_mem _ hy))
theorem lvBody_map (f : Str → Int) : ∀ (body : List Row) (m : Int), lvBody f m body = (body.map fun row => f row.t + 1).foldl max m
  | [], m => rfl
  | row :: body, m => lvBody_map f body (max m (f row.t + 1))
theorem Ends0_lastO {n : Nat} {Q : WK} {S T : Sto} {k : Nat} {o1 : O} (hn : n ≤ S.length) (cl : Closed S) (hk : T[k]? = some o1) (hr : ∀ f, o1.ren f = o1) (hb : ∀ m, o1.bnd m = true) (q : Q (.ref S.length) (S ++ [o1])) : Ends0 n Q (.ref (S.length + k)) (S ++ T) := by
  have hf : ∀ i, i < S.length → (List.range S.length ++ [S.length + k])[i]? = some i := fun i hi => by
    rw [List.getElem?_append_left (by rw [List.length_range]; exact hi)]
    exact List.getElem?_range hi
  have hlast : (List.range S.length ++ [S.length + k])[S.length]? = some (S.length + k) := by
    have z := get_app0 (R := List.range S.length) (L := [S.length + k])
    rw [List.length_range] at z
    exact z
  have hlen : (List.range S.length ++ [S.length + k]).length = S.length + 1 := by simp
  refine ⟨List.range S.length ++ [S.length + k], S ++ [o1], .ref S.length, by simp, fun i hi => hf i (by omega), ?_, fun i o ho => ?_, ?_, ?_, q⟩
  · refine List.nodup_append.mpr ⟨List.nodup_range, by simp, fun a ha b hb e => ?_⟩
    rw [List.mem_singleton.mp hb] at e
    have := List.mem_range.mp ha
    omega
  · rw [hlen]
    by_cases hi : i < S.length
    · rw [List.getElem?_append_left hi] at ho
      have b := cl i o ho
      refine ⟨O_bnd_mono (Nat.le_succ _) o b, i, hf i hi, ?_⟩
      rw [List.getElem?_append_left hi, ho, O_ren_ext hf o b]
    · have e : i = S.length := by
        have := (List.getElem?_eq_some_iff.mp ho).1
        rw [List.length_append] at this
        simp at this
        omega
      subst e
      rw [get_app0] at ho
      have e2 : o1 = o := Option.some.inj ho
      subst e2
      refine ⟨hb _, S.length + k, hlast, ?_⟩
      rw [get_app, hk, hr]
  · show W.ref _ = W.ref (List.getD _ _ _)
    rw [List.getD_eq_getElem?_getD, hlast]
    rfl
  · refine decide_eq_true ?_
    rw [hlen]
    exact Nat.lt_succ_self _
theorem dkF_ren {ns : List Str} {F : Str → Int} (f : List Nat) : (dkF ns F).ren f = dkF ns F := by
  show O.dk _ = O.dk _
  rw [List.map_map]
  rfl
theorem dkF_bnd {ns : List Str} {F : Str → Int} (n : Nat) : (dkF ns F).bnd n = true := by
  show W.bndL _ _ = true
  refine bndL_of fun w hw => ?_
  rw [List.map_map] at hw
  obtain ⟨x, _, rfl⟩ := List.mem_map.mp hw
  rfl
def F_llevels : DSpec := fun ws S Q => ∃ h, ws = [House.enc h] ∧ OkHouse h ∧ Q (.ref S.length) (S ++ [dkF h.names (levF h.rules h.names)])
/-- the dict ahead of rule j, at table i -/
def partF (rules : List Rule) (ns : List Str) (i j : Nat) (t : Str) : Str → Int := fun x => if x = t then lvFold rules (levF rules (ns.take i)) ((List.range j).filter (isInto rules t)) else levF rules (ns.take i) x
theorem vc_llevels : ∀ ws S Q, Closed S → F_llevels ws S Q → d_law_levels (endsW S.length Q) (startW N_law_levels.length ws) S := by
  rintro ws S Q cl ⟨h, rfl, ok, q⟩
  show d_law_levels _ [some _, none, none, none, none, none, none, none] _
  unfold d_law_levels
  have hx0 : ∀ {S : Sto} {Q : WK}, vIxA (House.enc h) (.int 0) S Q = Q (.tup (h.tabs.map tabE)) S := e_ixAT rfl
  have hx3 : ∀ {S : Sto} {Q : WK}, vIxA (House.enc h) (.int 3) S Q = Q (.tup (h.rules.map Rule.enc)) S := e_ixAT rfl
  have hnt := ok.nt
  walk_at "dl"
  rw [hx0]
  walk_at "dl"
  refine compW_map (r := fun tb : Str × Int => pairW (Sum.inr tb.1, DL.W.int 0)) trivial (le_sz (by omega)) ?_ ?_
  · intro tb htb N acc ha hN
    unfold tabE
    walk_at "dl"
    exact ⟨ha, hN⟩
  have e0 : (h.tabs.map fun tb : Str × Int => pairW (Sum.inr tb.1, DL.W.int 0)) = ((h.names.map fun n => ((Sum.inr n : Key), DL.W.int ((fun _ => 0) n)))).map pairW := by
    rw [List.map_map, List.map_map]
    rfl
  rw [e0, e_dictP get_app0]
  have e1 : mergeW [] (h.names.map fun n => ((Sum.inr n : Key), DL.W.int ((fun _ => 0) n))) = h.names.map fun n => ((Sum.inr n : Key), DL.W.int ((fun _ => 0) n)) :=
    merge_nodup (acc := []) (F := fun _ => 0) ok.nd
  rw [e1, hx0]
  generalize O.lst ((h.names.map fun n => ((Sum.inr n : Key), DL.W.int ((fun _ => 0) n))).map pairW) = X
  walk_at "dl"
  refine forW_inv (fun i env S' => ∃ G x2 x3 x4 x5 x6 x7, S' = S ++ (X :: dkF h.names (levF h.rules (h.names.take i)) :: G) ∧ env = [some (House.enc h), some (.ref (S.length + 1)), x2, x3, x4, x5, x6, x7]) ⟨[], _, _, _, _, _, _, rfl, rfl⟩ ?_ ?_
  · rintro i x env S' hx ⟨G, x2, x3, x4, x5, x6, x7, rfl, rfl⟩ N hN
    obtain ⟨tb, htb, rfl, _, hi⟩ := map_get hx
    have hni : h.names[i]? = some tb.1 := by rw [List.getElem?_map, htb]; rfl
    have htn : tb.1 ∈ h.names := List.mem_of_getElem? hni
    have hnot := not_in_take ok.nd hni
    refine ⟨trivial, ?_⟩
    unfold tabE
    walk_at "dl"
    rw [hx3]
    walk_at "dl"
    refine forW_inv (fun j env S' => ∃ G x4 x5 x6 x7, S' = S ++ (X :: dkF h.names (partF h.rules h.names i j tb.1) :: G) ∧ env = [some (House.enc h), some (.ref (S.length + 1)), some (.str tb.1), some (.int tb.2), x4, x5, x6, x7]) ⟨G, _, _, _, _, ?_, rfl⟩ ?_ ?_
    · congr 3
      refine dkF_cong fun n hn => ?_
      show _ = (if n = tb.1 then lvFold _ _ [] else _)
      split
      · rename_i e
        rw [e, levF_out hnot]
        rfl
      · rfl
    · rintro j x env S' hx ⟨G, x4, x5, x6, x7, rfl, rfl⟩ N2 hN2
      obtain ⟨r, hr, rfl, hrm, hj⟩ := map_get hx
      refine ⟨trivial, ?_⟩
      have hbl := (ok.rules r hrm).2
      unfold Rule.enc
      walk_at "dl"
      unfold Row.enc
      walk_at "dl"
      have hs : (List.range (j + 1)).filter (isInto h.rules tb.1) = (List.range j).filter (isInto h.rules tb.1) ++ (if r.head.t = tb.1 then [j] else []) := by
        rw [List.range_succ, List.filter_append]
        congr 1
        have e : isInto h.rules tb.1 j = decide (r.head.t = tb.1) := by
          unfold isInto
          rw [hr]
        by_cases ht : r.head.t = tb.1
        · simp [e, ht]
        · simp [e, ht]
      split
      · rename_i ht
        have hD : ∀ G' : Sto, (S ++ X :: dkF h.names (partF h.rules h.names i j tb.1) :: G')[S.length + 1]? = some (dkF h.names (partF h.rules h.names i j tb.1)) := fun G' => get_app
        rw [e_ixAD (hD G) rfl (dkF_val htn)]
        have em : partF h.rules h.names i j tb.1 tb.1 = lvFold h.rules (levF h.rules (h.names.take i)) ((List.range j).filter (isInto h.rules tb.1)) := by
          unfold partF
          rw [if_pos rfl]
        rw [em]
        generalize hm0 : lvFold h.rules (levF h.rules (h.names.take i)) ((List.range j).filter (isInto h.rules tb.1)) = m0
        refine compW_map (r := fun row : Row => .int (levF h.rules (h.names.take i) row.t + 1)) trivial (le_sz (by omega)) ?_ ?_
        · intro row hrow N3 acc ha hN3
          have hin : row.t ∈ h.names.take i := ok.low _ hrm i (by rw [ht]; exact hni) row hrow
          have hne : row.t ≠ tb.1 := fun e => hnot (e ▸ hin)
          have eT : ∀ L : Sto, (S ++ X :: dkF h.names (partF h.rules h.names i j tb.1) :: G) ++ L = S ++ X :: dkF h.names (partF h.rules h.names i j tb.1) :: (G ++ L) := fun L => by rw [List.append_assoc]; rfl
          rw [eT] at hN3
          walk_at "dl"
          rw [e_ixAD (hD _) rfl (dkF_val (List.mem_of_mem_take hin))]
          have ep : partF h.rules h.names i j tb.1 row.t = levF h.rules (h.names.take i) row.t := by
            unfold partF
            rw [if_neg hne]
          rw [ep]
          walk_at "dl"
          exact ⟨ha, hN3⟩
        · generalize hT : S ++ X :: dkF h.names (partF h.rules h.names i j tb.1) :: G = T
          have hl1 : (T ++ [O.lst [DL.W.int m0]]).length = T.length + 1 := by simp
          have eS : (T ++ [O.lst [DL.W.int m0]]) ++ [.lst (r.body.map fun row : Row => DL.W.int (levF h.rules (h.names.take i) row.t + 1))] = T ++ [.lst [.int m0], .lst (r.body.map fun row : Row => DL.W.int (levF h.rules (h.names.take i) row.t + 1))] := by rw [List.append_assoc]; rfl
          rw [eS, hl1, e_addL (a := [.int m0]) (b := r.body.map fun row : Row => DL.W.int (levF h.rules (h.names.take i) row.t + 1)) get_app0 get_app]
          refine ⟨le_sz (by rw [List.length_map]; show 1 + _ ≤ _; omega), ?_⟩
          refine .inr ⟨_, m0 :: r.body.map (fun row => levF h.rules (h.names.take i) row.t + 1), rfl, ?_, by simp, fun m hm hall => ?_⟩
          · rw [get_app0, List.map_cons, List.map_map]
            rfl
          · have efold := max_fold _ _ _ hm hall
            rw [← lvBody_map] at efold
            subst efold
            subst hT
            have eT : ∀ G L : Sto, (S ++ X :: dkF h.names (partF h.rules h.names i j tb.1) :: G) ++ L = S ++ X :: dkF h.names (partF h.rules h.names i j tb.1) :: (G ++ L) := fun G L => by rw [List.append_assoc]; rfl
            rw [eT, eT]
            generalize (G ++ _ ++ _ : Sto) = G3
            show vSetA _ _ _ _ _
            rw [e_setAD (hD _) rfl, dkF_put htn]
            refine ⟨lt_sz (by rw [List.length_map, List.length_map]; omega), ?_⟩
            rw [set_app]
            refine hN2 _ _ ⟨G3, _, _, _, _, ?_, rfl⟩
            show S ++ X :: O.dk _ :: _ = _
            congr 3
            show dkF h.names _ = _
            refine dkF_cong fun n hn => ?_
            show (if n = tb.1 then _ else partF _ _ _ _ _ n) = _
            unfold partF
            by_cases en : n = tb.1
            · rw [if_pos en, if_pos en, hs, if_pos ht]
              unfold lvFold
              rw [List.foldl_append]
              show _ = lvBody _ _ (bodyAt h.rules j)
              have eb : bodyAt h.rules j = r.body := by
                unfold bodyAt
                rw [hr]
              rw [eb, ← hm0]
              rfl
            · rw [if_neg en, if_neg en, if_neg en]
      · rename_i ht
        refine hN2 _ _ ⟨G, _, _, _, _, ?_, rfl⟩
        congr 3
        refine dkF_cong fun n hn => ?_
        unfold partF
        rw [hs, if_neg ht, List.append_nil]
    · rintro env S' ⟨G, x4, x5, x6, x7, rfl, rfl⟩
      rw [List.length_map]
      refine ⟨trivial, hN _ _ ⟨G, _, _, _, _, _, _, ?_, rfl⟩⟩
      congr 3
      refine dkF_cong fun n hn => ?_
      rw [take_snoc hni, levF_snoc]
      rfl
  · rintro env S' ⟨G, x2, x3, x4, x5, x6, x7, rfl, rfl⟩
    rw [List.length_map]
    refine ⟨trivial, ?_⟩
    walk_at "dl"
    have eT : h.names.take h.tabs.length = h.names := List.take_of_length_le (by rw [List.length_map]; exact Nat.le_refl _)
    rw [eT]
    exact Ends0_lastO (k := 1) (Nat.le_refl _) cl rfl dkF_ren dkF_bnd q
end K09

/-! K09P: parts by merging lists, parts by labels; plain Lean. -/
namespace K09
open PySem L2 DL
def hit (l p : List Str) : Bool := p.any fun x => decide (x ∈ l)
def stepP (P : List (List Str)) (l : List Str) : List (List Str) := P.filter (fun p => !hit l p) ++ [(P.filter (hit l)).flatten]
def partsP (ns : List Str) (Ls : List (List Str)) : List (List Str) := Ls.foldl stepP (ns.map fun n => [n])
def stepL1 (g0 : Str) (lab : Str → Int) (name : Str) : Str → Int := fun x => if lab x = lab name then lab g0 else lab x
def stepL (lab : Str → Int) (g : List Str) : Str → Int := match g with
  | [] => lab
  | g0 :: _ => g.foldl (stepL1 g0) lab
structure Parts (ns : List Str) (P : List (List Str)) (lab : Str → Int) : Prop where
  perm : P.flatten.Perm ns
  ne : ∀ p ∈ P, p ≠ []
  eq : ∀ x ∈ ns, ∀ y ∈ ns, lab x = lab y ↔ ∃ p ∈ P, x ∈ p ∧ y ∈ p
theorem snoc_ind {α : Type} {P : List α → Prop} (h0 : P []) (hs : ∀ q a, P q → P (q ++ [a])) (q : List α) : P q := by
  have h : ∀ r : List α, P r.reverse := by
    intro r
    induction r with
    | nil => exact h0
    | cons a r ih =>
      rw [List.reverse_cons]
      exact hs _ _ ih
  have z := h q.reverse
  rwa [List.reverse_reverse] at z
open Classical in
theorem fold_lab {lab : Str → Int} {g0 : Str} : ∀ (q : List Str), (∀ x, q.foldl (stepL1 g0) lab x = if ∃ b ∈ q, lab x = lab b then lab g0 else lab x) := by
  refine snoc_ind (fun x => by simp) fun q name ih => ?_
  · intro x
    rw [List.foldl_append]
    show (if (q.foldl (stepL1 g0) lab) x = (q.foldl (stepL1 g0) lab) name then (q.foldl (stepL1 g0) lab) g0 else (q.foldl (stepL1 g0) lab) x) = _
    rw [ih x, ih name, ih g0]
    have e0 : (if ∃ b ∈ q, lab g0 = lab b then lab g0 else lab g0) = lab g0 := by split <;> rfl
    rw [e0]
    have hmem : (∃ b ∈ q ++ [name], lab x = lab b) ↔ ((∃ b ∈ q, lab x = lab b) ∨ lab x = lab name) := by
      constructor
      · rintro ⟨b, hb, e⟩
        rcases List.mem_append.mp hb with hb | hb
        · exact .inl ⟨b, hb, e⟩
        · rw [List.mem_singleton.mp hb] at e
          exact .inr e
      · rintro (⟨b, hb, e⟩ | e)
        · exact ⟨b, List.mem_append_left _ hb, e⟩
        · exact ⟨name, by simp, e⟩
    by_cases hx : ∃ b ∈ q, lab x = lab b
    · rw [if_pos hx, if_pos (hmem.mpr (.inl hx))]
      split <;> split <;> rfl
    · rw [if_neg hx]
      by_cases hn : ∃ b ∈ q, lab name = lab b
      · rw [if_pos hn]
        have hno : ¬ lab x = lab name := fun e => by
          obtain ⟨b, hb, e2⟩ := hn
          exact hx ⟨b, hb, e.trans e2⟩
        rw [if_neg (fun h => (hmem.mp h).elim hx hno)]
        split
        · rename_i e
          exact e.symm
        · rfl
      · rw [if_neg hn]
        by_cases he : lab x = lab name
        · rw [if_pos he, if_pos (hmem.mpr (.inr he))]
        · rw [if_neg he, if_neg (fun h => (hmem.mp h).elim hx he)]
theorem stepL_eq {lab : Str → Int} {g : List Str} (hg : g ≠ []) (x y : Str) : stepL lab g x = stepL lab g y ↔ lab x = lab y ∨ ((∃ b ∈ g, lab x = lab b) ∧ ∃ b ∈ g, lab y = lab b) := by
  cases g with
  | nil => exact absurd rfl hg
  | cons g0 r =>
    show ((g0 :: r).foldl (stepL1 g0) lab) x = ((g0 :: r).foldl (stepL1 g0) lab) y ↔ _
    rw [fold_lab, fold_lab]
    by_cases hx : ∃ b ∈ g0 :: r, lab x = lab b
    · by_cases hy : ∃ b ∈ g0 :: r, lab y = lab b
      · rw [if_pos hx, if_pos hy]
        exact ⟨fun _ => .inr ⟨hx, hy⟩, fun _ => rfl⟩
      · rw [if_pos hx, if_neg hy]
        constructor
        · intro e
          exact absurd ⟨g0, List.mem_cons_self .., e.symm⟩ hy
        · rintro (e | h)
          · obtain ⟨b, hb, e2⟩ := hx
            exact absurd ⟨b, hb, e.symm.trans e2⟩ hy
          · exact absurd h.2 hy
    · by_cases hy : ∃ b ∈ g0 :: r, lab y = lab b
      · rw [if_neg hx, if_pos hy]
        constructor
        · intro e
          exact absurd ⟨g0, List.mem_cons_self .., e⟩ hx
        · rintro (e | h)
          · obtain ⟨b, hb, e2⟩ := hy
            exact absurd ⟨b, hb, e.trans e2⟩ hx
          · exact absurd h.1 hx
      · rw [if_neg hx, if_neg hy]
        exact ⟨.inl, fun h => h.elim id fun h => absurd h.1 hx⟩
theorem hit_iff {l p : List Str} : hit l p = true ↔ ∃ x ∈ p, x ∈ l := by
  unfold hit
  rw [List.any_eq_true]
  exact ⟨fun ⟨x, h1, h2⟩ => ⟨x, h1, of_decide_eq_true h2⟩, fun ⟨x, h1, h2⟩ => ⟨x, h1, decide_eq_true h2⟩⟩
theorem Parts.step {ns : List Str} {P : List (List Str)} {lab : Str → Int} {l g : List Str} (h : Parts ns P lab) (hl : ∀ x ∈ l, x ∈ ns) (hne : l ≠ []) (hg : ∀ x, x ∈ g ↔ x ∈ l) : Parts ns (stepP P l) (stepL lab g) := by
  have hgn : g ≠ [] := by
    obtain ⟨x, hx⟩ := List.exists_mem_of_ne_nil _ hne
    intro e
    have := (hg x).mpr hx
    rw [e] at this
    cases this
  have inns : ∀ x, x ∈ ns ↔ ∃ p ∈ P, x ∈ p := fun x => by
    rw [← h.perm.mem_iff, List.mem_flatten]
  have meets : ∀ x ∈ ns, (∃ b ∈ g, lab x = lab b) ↔ ∃ p ∈ P, hit l p = true ∧ x ∈ p := fun x hx => by
    constructor
    · rintro ⟨b, hb, e⟩
      have hb2 := (hg b).mp hb
      obtain ⟨p, hp, h1, h2⟩ := (h.eq x hx b (hl b hb2)).mp e
      exact ⟨p, hp, hit_iff.mpr ⟨b, h2, hb2⟩, h1⟩
    · rintro ⟨p, hp, hh, h1⟩
      obtain ⟨b, hb, hb2⟩ := hit_iff.mp hh
      exact ⟨b, (hg b).mpr hb2, (h.eq x hx b (hl b hb2)).mpr ⟨p, hp, h1, hb⟩⟩
  refine ⟨?_, ?_, ?_⟩
  · unfold stepP
    rw [List.flatten_append]
    show ((P.filter fun p => !hit l p).flatten ++ ((P.filter (hit l)).flatten ++ [])).Perm ns
    rw [List.append_nil, ← List.flatten_append]
    refine List.Perm.trans (List.Perm.flatten ?_) h.perm
    refine List.Perm.trans List.perm_append_comm ?_
    exact List.filter_append_perm (hit l) P
  · intro p hp
    rcases List.mem_append.mp hp with hp | hp
    · exact h.ne p (List.mem_filter.mp hp).1
    · rw [List.mem_singleton.mp hp]
      obtain ⟨x, hx⟩ := List.exists_mem_of_ne_nil _ hne
      obtain ⟨q, hq, hxq⟩ := (inns x).mp (hl x hx)
      intro e
      have : x ∈ (P.filter (hit l)).flatten := List.mem_flatten.mpr ⟨q, List.mem_filter.mpr ⟨hq, hit_iff.mpr ⟨x, hxq, hx⟩⟩, hxq⟩
      rw [e] at this
      cases this
  · intro x hx y hy
    rw [stepL_eq hgn, meets x hx, meets y hy, h.eq x hx y hy]
    constructor
    · rintro (⟨p, hp, h1, h2⟩ | ⟨⟨p, hp, h1, h2⟩, ⟨p2, hp2, h3, h4⟩⟩)
      · cases hh : hit l p with
        | true => exact ⟨_, List.mem_append_right _ (List.mem_singleton.mpr rfl), List.mem_flatten.mpr ⟨p, List.mem_filter.mpr ⟨hp, hh⟩, h1⟩, List.mem_flatten.mpr ⟨p, List.mem_filter.mpr ⟨hp, hh⟩, h2⟩⟩
        | false => exact ⟨p, List.mem_append_left _ (List.mem_filter.mpr ⟨hp, by rw [hh]; rfl⟩), h1, h2⟩
      · exact ⟨_, List.mem_append_right _ (List.mem_singleton.mpr rfl), List.mem_flatten.mpr ⟨p, List.mem_filter.mpr ⟨hp, h1⟩, h2⟩, List.mem_flatten.mpr ⟨p2, List.mem_filter.mpr ⟨hp2, h3⟩, h4⟩⟩
    · rintro ⟨p, hp, h1, h2⟩
      rcases List.mem_append.mp hp with hp | hp
      · exact .inl ⟨p, (List.mem_filter.mp hp).1, h1, h2⟩
      · rw [List.mem_singleton.mp hp] at h1 h2
        obtain ⟨q, hq, hxq⟩ := List.mem_flatten.mp h1
        obtain ⟨q2, hq2, hyq⟩ := List.mem_flatten.mp h2
        obtain ⟨a1, a2⟩ := List.mem_filter.mp hq
        obtain ⟨b1, b2⟩ := List.mem_filter.mp hq2
        exact .inr ⟨⟨q, a1, a2, hxq⟩, ⟨q2, b1, b2, hyq⟩⟩
/-! ### what is told -/
def classOf (ns : List Str) (lab : Str → Int) (t : Str) : List Str := (ns.filter fun x => decide (lab x = lab t)).mergeSort strLe
def addL (acc : List (List Str)) (x : List Str) : List (List Str) := if x ∈ acc then acc else acc ++ [x]
def classes (ns : List Str) (lab : Str → Int) : List (List Str) := (ns.map (classOf ns lab)).foldl addL []
theorem addL_nd {acc : List (List Str)} {x : List Str} (h : acc.Nodup) : (addL acc x).Nodup := by
  unfold addL
  split
  · exact h
  · rename_i hx
    exact List.nodup_append.mpr ⟨h, by simp, fun a ha b hb e => hx (by rw [List.mem_singleton.mp hb] at e; exact e ▸ ha)⟩
theorem addL_mem {acc : List (List Str)} {x y : List Str} : y ∈ addL acc x ↔ y ∈ acc ∨ y = x := by
  unfold addL
  split
  · rename_i hx
    exact ⟨.inl, fun h => h.elim id fun e => e ▸ hx⟩
  · rw [List.mem_append, List.mem_singleton]
theorem foldL : ∀ (l acc : List (List Str)), acc.Nodup → (l.foldl addL acc).Nodup ∧ ∀ y, y ∈ l.foldl addL acc ↔ y ∈ acc ∨ y ∈ l
  | [], acc, h => ⟨h, fun y => by simp⟩
  | x :: l, acc, h => by
    obtain ⟨h1, h2⟩ := foldL l (addL acc x) (addL_nd h)
    refine ⟨h1, fun y => ?_⟩
    rw [List.foldl_cons, h2, addL_mem, List.mem_cons, or_assoc]
theorem parts_same {ns : List Str} {P : List (List Str)} {lab : Str → Int} (nd : ns.Nodup) (h : Parts ns P lab) : (P.map fun p => p.mergeSort strLe).mergeSort tupLe = (classes ns lab).mergeSort tupLe := by
  obtain ⟨n1, n2⟩ := foldL (ns.map (classOf ns lab)) [] List.nodup_nil
  have fnd : P.flatten.Nodup := (h.perm.nodup_iff).mpr nd
  obtain ⟨fa, fb⟩ := List.pairwise_flatten.mp fnd
  have inns : ∀ x, x ∈ ns ↔ ∃ p ∈ P, x ∈ p := fun x => by
    rw [← h.perm.mem_iff, List.mem_flatten]
  have uniq : ∀ p ∈ P, ∀ q ∈ P, ∀ x, x ∈ p → x ∈ q → p = q := by
    intro p hp q hq x hx hy
    obtain ⟨i, hi, e1⟩ := List.mem_iff_getElem.mp hp
    obtain ⟨j, hj, e2⟩ := List.mem_iff_getElem.mp hq
    rcases Nat.lt_trichotomy i j with c | c | c
    · exact absurd rfl ((List.pairwise_iff_getElem.mp fb) i j hi hj c x (by rw [e1]; exact hx) x (by rw [e2]; exact hy))
    · subst c
      rw [← e1, ← e2]
    · exact absurd rfl ((List.pairwise_iff_getElem.mp fb) j i hj hi c x (by rw [e2]; exact hy) x (by rw [e1]; exact hx))
  have cls : ∀ p ∈ P, ∀ t ∈ p, p.mergeSort strLe = classOf ns lab t := by
    intro p hp t ht
    have htn : t ∈ ns := (inns t).mpr ⟨p, hp, ht⟩
    refine sort_strs_perm ((List.perm_ext_iff_of_nodup (fa p hp) (nd.filter _)).mpr fun x => ?_)
    rw [List.mem_filter, decide_eq_true_eq]
    constructor
    · intro hx
      have hxn : x ∈ ns := (inns x).mpr ⟨p, hp, hx⟩
      exact ⟨hxn, (h.eq x hxn t htn).mpr ⟨p, hp, hx, ht⟩⟩
    · rintro ⟨hxn, e⟩
      obtain ⟨q, hq, h1, h2⟩ := (h.eq x hxn t htn).mp e
      rw [uniq p hp q hq t ht h2]
      exact h1
  refine sort_tups_perm ((List.perm_ext_iff_of_nodup ?_ n1).mpr fun y => ?_)
  · refine List.pairwise_map.mpr (List.Pairwise.imp_of_mem (fun {p q} hp hq hd e => ?_) fb)
    obtain ⟨x, hx⟩ := List.exists_mem_of_ne_nil _ (h.ne p hp)
    have h1 : x ∈ p.mergeSort strLe := List.mem_mergeSort.mpr hx
    rw [e] at h1
    exact hd x hx x (List.mem_mergeSort.mp h1) rfl
  · show y ∈ P.map _ ↔ y ∈ (ns.map (classOf ns lab)).foldl addL []
    rw [n2, List.mem_map, List.mem_map]
    constructor
    · rintro ⟨p, hp, rfl⟩
      obtain ⟨x, hx⟩ := List.exists_mem_of_ne_nil _ (h.ne p hp)
      exact .inr ⟨x, (inns x).mpr ⟨p, hp, hx⟩, (cls p hp x hx).symm⟩
    · rintro (hn | ⟨x, hx, rfl⟩)
      · cases hn
      · obtain ⟨p, hp, hxp⟩ := (inns x).mp hx
        exact ⟨p, hp, cls p hp x hxp⟩
theorem parts_start {ns : List Str} {lab : Str → Int} (inj : ∀ x ∈ ns, ∀ y ∈ ns, lab x = lab y → x = y) : Parts ns (ns.map fun n => [n]) lab := by
  refine ⟨?_, ?_, ?_⟩
  · have e : (ns.map fun n => [n]).flatten = ns := by
      induction ns with
      | nil => rfl
      | cons n ns ih =>
        rw [List.map_cons, List.flatten_cons, ih fun x hx y hy => inj x (List.mem_cons_of_mem _ hx) y (List.mem_cons_of_mem _ hy)]
        rfl
    rw [e]
  · intro p hp
    obtain ⟨n, _, rfl⟩ := List.mem_map.mp hp
    simp
  · intro x hx y hy
    constructor
    · intro e
      have e2 := inj x hx y hy e
      subst e2
      exact ⟨[x], List.mem_map.mpr ⟨x, hx, rfl⟩, by simp, by simp⟩
    · rintro ⟨p, hp, h1, h2⟩
      obtain ⟨n, _, rfl⟩ := List.mem_map.mp hp
      rw [List.mem_singleton.mp h1, List.mem_singleton.mp h2]
theorem parts_all {ns : List Str} : ∀ (LG : List (List Str × List Str)) (P : List (List Str)) (lab : Str → Int), Parts ns P lab → (∀ q ∈ LG, (∀ x ∈ q.1, x ∈ ns) ∧ q.1 ≠ [] ∧ ∀ x, x ∈ q.2 ↔ x ∈ q.1) →
    Parts ns ((LG.map (·.1)).foldl stepP P) ((LG.map (·.2)).foldl stepL lab)
  | [], P, lab, h, _ => h
  | q :: LG, P, lab, h, hq => by
    obtain ⟨h1, h2, h3⟩ := hq q (List.mem_cons_self ..)
    exact parts_all LG _ _ (h.step h1 h2 h3) fun r hr => hq r (List.mem_cons_of_mem _ hr)
end K09

namespace K09
open PySem PySem.Spec PyProof.Rows L2 TL DL
local macro_rules | `(tactic| walk_at "dl") => `(tactic| try simp (config := { decide := false }) only [e_seq, e_asg, e_nm, e_op, e_un, e_cb, e_c, e_var, e_ifs, e_tru, e_B, e_drop, e_bm, e_bm0, e_ret, e_retN, e_next, e_break, e_cont, e_nil, e_cons, e_tup, e_lst, e_sl, e_onone, e_osome, e_gsub, e_call, e_callk, e_and, e_or, e_not, e_andv, e_orv, e_notv, e_notU, e_isI, e_isS, e_isT, e_isR, e_isN, e_if, e_par, e_for, e_comp, e_iseq, e_rng1, e_yes, e_gtp, e_gc, e_gn0,
  e_addI, e_addS, e_addT, e_addL, e_i20, e_i2, e_neg, e_cmpI, e_cmpS, e_eqI, e_eqS, e_eqB, e_ixT, e_ixLit, e_ixL, e_ixS, e_set, e_ixAT, e_ixALit, e_ixAL, e_ixAS, e_ixAD, e_setAL, e_setAD, e_dict0, e_inAL, e_inAT, e_inAD, e_inAS, e_listAT, e_listALit, e_listAL, e_listAD, e_max2, e_extend, e_isalpha, e_enum, keyW, sz0, sz1, sz2, sz3, sz4, sz5, sz6, O.dk.injEq, e_slT, e_slLit, e_slS, e_slL, e_lenAS, e_lenAT, e_lenALit, e_lenAL, e_lenAD, e_lenS, e_lenT, e_lenLit, e_lenL, e_i1, e_intI, e_intB, e_strI, e_strS, e_listT, e_listLit, e_listL, e_tupleT, e_tupleL, e_append, e_pop0, e_tyL, e_tyS, e_truL, e_truT, e_truB, e_truI, e_truS, e_truN, e_seqT, e_seqLit, e_seqL, e_in, e_inT, e_isi, kit_ll, kit_ss, tyW_L, tyW_S, tyW_T, tyW_I, tyW_B, cut_to1, cut_to2, cut_from1, wipeW_nil, wipeW_cons, Nat.reduceAdd, eq_self, List.map_cons, List.map_nil,
  atI_0, atI_1, atI_2, atI_3, atI_4, atI_5, atI_end, ixN_0, ixN_1, ixN_11, ixN_last, List.map_append, List.map_cons, List.map_nil, get_app, get_app0, set_app, set_app0, List.cons_append, List.nil_append, List.append_assoc, List.length_append, List.length_cons, List.length_nil, Nat.zero_add, List.length_map, List.length_set,
  List.getElem?_cons_zero, List.getElem?_cons_succ, List.set_cons_zero, List.set_cons_succ, Option.some.injEq, exists_eq_left', exists_eq_left, exists_and_left, W.int.injEq, W.bl.injEq, W.str.injEq, W.tup.injEq, W.ref.injEq, O.lst.injEq, List.cons.injEq, reduceCtorEq, false_and, exists_false, or_false, false_or, true_and, and_true, decide_eq_true_eq, Bool.false_xor, Bool.true_xor, Bool.not_eq_true', decide_eq_false_iff_not, List.isEmpty_cons, List.isEmpty_nil, Bool.not_true, Bool.not_false, if_true, if_false, not_true_eq_false, not_false_eq_true, ne_eq, Bool.false_eq_true, reduceIte])

/-! ### house_parts -/
theorem links_ok {h : House} (ok : OkHouse h) : ∀ l ∈ links h, (∀ x ∈ l, x ∈ h.names) ∧ l ≠ [] := by
  intro l hl
  rcases List.mem_append.mp hl with hl | hl
  · obtain ⟨r, hr, rfl⟩ := List.mem_map.mp hl
    refine ⟨fun x hx => ?_, by unfold Rule.names; simp⟩
    rcases List.mem_cons.mp hx with rfl | hx
    · exact ok.hd r hr
    · obtain ⟨row, hrow, rfl⟩ := List.mem_map.mp hx
      obtain ⟨i, hi, e⟩ := List.mem_iff_getElem.mp (ok.hd r hr)
      exact List.mem_of_mem_take (ok.low r hr i (by rw [← e]; exact List.getElem?_eq_getElem hi) row hrow)
  · obtain ⟨r, hr, rfl⟩ := List.mem_map.mp hl
    refine ⟨fun x hx => ?_, by unfold Kept.names; simp⟩
    rcases List.mem_cons.mp hx with rfl | hx
    · exact (ok.kn r hr).1
    · obtain ⟨row, hrow, rfl⟩ := List.mem_map.mp hx
      exact (ok.kn r hr).2 row hrow
theorem links_len {h : House} (ok : OkHouse h) : (links h).length ≤ 200 := by
  unfold links
  have h1 := ok.nr
  have h2 := ok.nk
  rw [List.length_append, List.length_map, List.length_map]
  omega
def lab0 (ns : List Str) (x : Str) : Int := ((ns.idxOf x : Nat) : Int)
theorem lab0_inj {ns : List Str} : ∀ x ∈ ns, ∀ y ∈ ns, lab0 ns x = lab0 ns y → x = y := by
  intro x hx y hy e
  have e2 : ns.idxOf x = ns.idxOf y := by
    unfold lab0 at e
    omega
  have h1 := List.getElem_idxOf (List.idxOf_lt_length_of_mem hx)
  have h2 := List.getElem_idxOf (List.idxOf_lt_length_of_mem hy)
  rw [← h1, ← h2]
  congr 1
abbrev partsK (h : House) (i : Nat) : List (List Str) := ((links h).take i).foldl stepP (h.names.map fun n => [n])
theorem parts_k {h : House} (ok : OkHouse h) (i : Nat) : ∃ lab, Parts h.names (partsK h i) lab := by
  have z := parts_all (ns := h.names) (((links h).take i).map fun l => (l, l)) _ _ (parts_start lab0_inj) fun q hq => by
    obtain ⟨l, hl, rfl⟩ := List.mem_map.mp hq
    have := links_ok ok l (List.mem_of_mem_take hl)
    exact ⟨this.1, this.2, fun x => Iff.rfl⟩
  have e : (((links h).take i).map fun l => (l, l)).map (fun q : List Str × List Str => q.1) = (links h).take i := by
    rw [List.map_map]
    exact List.map_id _
  rw [e] at z
  exact ⟨_, z⟩
theorem flat_filter {p : List Str → Bool} : ∀ L : List (List Str), ((L.filter p).flatten).length ≤ L.flatten.length
  | [] => Nat.le_refl _
  | l :: L => by
    have ih := flat_filter (p := p) L
    rw [List.filter_cons, List.flatten_cons, List.length_append]
    split
    · rw [List.flatten_cons, List.length_append]
      omega
    · omega
theorem flat_take (L : List (List Str)) (k : Nat) : ((L.take k).flatten).length ≤ L.flatten.length := by
  have e : L.flatten = (L.take k).flatten ++ (L.drop k).flatten := by
    rw [← List.flatten_append, List.take_append_drop]
  rw [e, List.length_append]
  omega
theorem len_le_flat : ∀ (L : List (List Str)), (∀ p ∈ L, p ≠ []) → L.length ≤ L.flatten.length
  | [], _ => Nat.le_refl _
  | l :: L, h => by
    have ih := len_le_flat L fun p hp => h p (List.mem_cons_of_mem _ hp)
    have hl : 0 < l.length := List.length_pos_iff.mpr (h l (List.mem_cons_self ..))
    rw [List.flatten_cons, List.length_append, List.length_cons]
    omega
structure ListsAt (S : Sto) (ps : List Nat) (P : List (List Str)) : Prop where
  len : ps.length = P.length
  at_ : ∀ (k p : Nat) (l : List Str), ps[k]? = some p → P[k]? = some l → S[p]? = some (stro l)
theorem get_pre {S T : Sto} {i : Nat} {o : O} (h : S[i]? = some o) : (S ++ T)[i]? = some o := by
  rw [List.getElem?_append_left (List.getElem?_eq_some_iff.mp h).1]
  exact h
theorem ListsAt.app {S : Sto} {ps : List Nat} {P : List (List Str)} (h : ListsAt S ps P) (T : Sto) : ListsAt (S ++ T) ps P :=
  ⟨h.len, fun k p l h1 h2 => get_pre (h.at_ k p l h1 h2)⟩
theorem ListsAt.snoc {S : Sto} {ps : List Nat} {P : List (List Str)} {p : Nat} {l : List Str} (h : ListsAt S ps P) (hp : S[p]? = some (stro l)) : ListsAt S (ps ++ [p]) (P ++ [l]) := by
  refine ⟨by simp [h.len], fun k q m h1 h2 => ?_⟩
  by_cases hk : k < ps.length
  · rw [List.getElem?_append_left hk] at h1
    rw [List.getElem?_append_left (by rw [← h.len]; exact hk)] at h2
    exact h.at_ k q m h1 h2
  · have hk2 := (List.getElem?_eq_some_iff.mp h1).1
    rw [List.length_append] at hk2
    have e : k = ps.length := by
      have : k < ps.length + 1 := hk2
      omega
    subst e
    rw [get_app0] at h1
    rw [h.len, get_app0] at h2
    cases Option.some.inj h1
    cases Option.some.inj h2
    exact hp
def outP (h : House) : List (List Str) := ((partsP h.names (links h)).map fun p => p.mergeSort strLe).mergeSort tupLe
theorem refs_snoc (b n : Nat) : refsFrom b (n + 1) = refsFrom b n ++ [.ref (b + n)] := by
  unfold refsFrom
  rw [List.range_succ, List.map_append]
  rfl
def F_parts : DSpec := fun ws S Q => ∃ h, ws = [House.enc h] ∧ OkHouse h ∧ Q (.tup ((outP h).map tupS)) S
theorem vc_parts : ∀ ws S Q, Closed S → F_parts ws S Q → d_house_parts F_linked (endsW S.length Q) (startW N_house_parts.length ws) S := by
  rintro ws S Q cl ⟨h, rfl, ok, q⟩
  show d_house_parts F_linked _ [some _, none, none, none, none, none, none, none] _
  unfold d_house_parts
  have hx0 : ∀ {S : Sto} {Q : WK}, vIxA (House.enc h) (.int 0) S Q = Q (.tup (h.tabs.map tabE)) S := e_ixAT rfl
  have hnt := ok.nt
  walk_at "dl"
  rw [hx0]
  walk_at "dl"
  refine compW_inv (fun i acc S' => S' = S ++ (h.names.take i).map (fun n => stro [n]) ∧ acc = refsFrom S.length i) ⟨by simp, rfl⟩ ?_ ?_
  · rintro i x acc S' hx ⟨rfl, rfl⟩ N hN
    obtain ⟨tb, htb, rfl, _, hi⟩ := map_get hx
    have hni : h.names[i]? = some tb.1 := by rw [List.getElem?_map, htb]; rfl
    refine ⟨trivial, ?_⟩
    unfold tabE
    walk_at "dl"
    have hle : (h.names.take i).length = i := by rw [List.length_take, List.length_map]; omega
    refine ⟨lt_sz (by unfold refsFrom; rw [List.length_map, List.length_range]; omega), hN _ _ ⟨?_, ?_⟩⟩
    · rw [take_snoc hni, List.map_append]
      rfl
    · rw [hle, refs_snoc]
  · rintro acc S' ⟨rfl, rfl⟩
    rw [List.length_map]
    have eT : h.names.take h.tabs.length = h.names := List.take_of_length_le (by rw [List.length_map]; exact Nat.le_refl _)
    rw [eT]
    refine ⟨trivial, ?_⟩
    generalize hSa : S ++ h.names.map (fun n => stro [n]) ++ [O.lst (refsFrom S.length h.tabs.length)] = Sa
    refine ⟨h, rfl, ok.toOkHouse0, ?_⟩
    have hll := links_len ok
    generalize hS1 : Sa ++ ((links h).map stro ++ [O.lst (refsFrom Sa.length (links h).length)]) = S1
    have hLk : ∀ T : Sto, (S1 ++ T)[Sa.length + (links h).length]? = some (.lst (refsFrom Sa.length (links h).length)) := fun T => by
      refine get_pre ?_
      rw [← hS1, get_app]
      have z := get_app0 (R := (links h).map stro) (L := [O.lst (refsFrom Sa.length (links h).length)])
      rw [List.length_map] at z
      exact z
    have hNm : ∀ (T : Sto) (i : Nat) (l : List Str), (links h)[i]? = some l → (S1 ++ T)[Sa.length + i]? = some (stro l) := fun T i l hl => by
      refine get_pre ?_
      have hi := (List.getElem?_eq_some_iff.mp hl).1
      rw [← hS1, get_app, List.getElem?_append_left (by rw [List.length_map]; exact hi), List.getElem?_map, hl]
      rfl
    have hPre : ∃ T, S1 = S ++ T := by
      rw [← hS1, ← hSa]
      exact ⟨_, by rw [List.append_assoc, List.append_assoc]⟩
    have hP0 : S1[S.length + h.tabs.length]? = some (.lst (refsFrom S.length h.tabs.length)) := by
      rw [← hS1]
      refine get_pre ?_
      rw [← hSa, List.append_assoc, get_app]
      have z := get_app0 (R := h.names.map fun n => stro [n]) (L := [O.lst (refsFrom S.length h.tabs.length)])
      rw [List.length_map, List.length_map] at z
      exact z
    have hL0 : ListsAt S1 ((List.range h.tabs.length).map fun k => S.length + k) (h.names.map fun n => [n]) := by
      refine ⟨by simp, fun k p l h1 h2 => ?_⟩
      rw [List.getElem?_map] at h1 h2
      obtain ⟨a, ha, rfl⟩ := Option.map_eq_some_iff.mp h1
      obtain ⟨n, hn, rfl⟩ := Option.map_eq_some_iff.mp h2
      have hk := (List.getElem?_eq_some_iff.mp ha).1
      rw [List.length_range] at hk
      rw [List.getElem?_range hk] at ha
      cases Option.some.inj ha
      rw [← hS1]
      refine get_pre ?_
      rw [← hSa]
      refine get_pre ?_
      rw [get_app, List.getElem?_map, hn]
      rfl
    have hseq := hLk []
    rw [List.append_nil] at hseq
    walk_at "dl"
    rw [e_seqL hseq]
    refine forW_inv (fun i env S' => ∃ G pi ps x2 x3 x4 x5 x6 x7, S' = S1 ++ G ∧ S'[pi]? = some (.lst (ps.map W.ref)) ∧ ListsAt S' ps (partsK h i) ∧ env = [some (House.enc h), some (.ref pi), x2, x3, x4, x5, x6, x7])
      ⟨[], S.length + h.tabs.length, (List.range h.tabs.length).map fun k => S.length + k, _, _, _, _, _, _, by simp, ?_, hL0, rfl⟩ ?_ ?_
    · rw [hP0]
      unfold refsFrom
      rw [List.map_map]
      rfl
    · rintro i x env S' hx ⟨G, pi, ps, x2, x3, x4, x5, x6, x7, rfl, hpi, hps, rfl⟩ N hN
      unfold refsFrom at hx
      rw [List.getElem?_map] at hx
      obtain ⟨i2, hi2, rfl⟩ := Option.map_eq_some_iff.mp hx
      have hi := (List.getElem?_eq_some_iff.mp hi2).1
      rw [List.length_range] at hi
      rw [List.getElem?_range hi] at hi2
      cases Option.some.inj hi2
      obtain ⟨lab, hpa⟩ := parts_k ok i
      have hl : (links h)[i]? = some (links h)[i] := List.getElem?_eq_getElem hi
      generalize hlv : (links h)[i] = l at hl
      refine ⟨hLk G, ?_⟩
      generalize hS2 : S1 ++ G = S2 at hpi hps
      have hNm2 : ∀ T : Sto, (S2 ++ T)[Sa.length + i]? = some (stro l) := fun T => by
        rw [← hS2, List.append_assoc]
        exact hNm _ i l hl
      have hPl : (partsK h i).length ≤ 50 := by
        have h1 := len_le_flat _ hpa.ne
        have h2 := hpa.perm.length_eq
        rw [List.length_map] at h2
        omega
      have hFl : (partsK h i).flatten.length ≤ 50 := by
        have h2 := hpa.perm.length_eq
        rw [List.length_map] at h2
        omega
      walk_at "dl"
      rw [e_seqL (by exact get_pre hpi)]
      refine forW_inv (fun k env S' => ∃ aps G2 x5 x7, S' = S2 ++ (stro (((partsK h i).take k).filter (hit l)).flatten :: .lst (aps.map W.ref) :: G2) ∧ ListsAt S2 aps (((partsK h i).take k).filter fun p => !hit l p) ∧
          env = [some (House.enc h), some (.ref pi), some (.ref (Sa.length + i)), some (.ref S2.length), some (.ref (S2.length + 1)), x5, x6, x7]) ⟨[], [], _, _, rfl, ⟨rfl, fun k p l h1 => (by cases h1)⟩, rfl⟩ ?_ ?_
      · rintro k x env S' hx ⟨aps, G2, x5, x7, rfl, haps, rfl⟩ N2 hN2
        obtain ⟨p, hp, rfl, _, hk⟩ := map_get hx
        have hkP : k < (partsK h i).length := by rw [← hps.len]; exact hk
        have hpk : (partsK h i)[k]? = some (partsK h i)[k] := List.getElem?_eq_getElem hkP
        generalize (partsK h i)[k] = pk at hpk
        have hpc : ∀ T : Sto, (S2 ++ T)[p]? = some (stro pk) := fun T => get_pre (hps.at_ k p pk hp hpk)
        refine ⟨get_pre hpi, ?_⟩
        walk_at "dl"
        rw [e_seqL (hpc _)]
        have hJ : (((partsK h i).take (k + 1)).filter (hit l)).flatten.length ≤ 50 := Nat.le_trans (flat_filter _) (Nat.le_trans (flat_take _ _) hFl)
        have hpkl : pk.length ≤ 50 := by
          have h1 := flat_take (partsK h i) (k + 1)
          rw [take_snoc hpk, List.flatten_append, List.length_append] at h1
          have e : [pk].flatten.length = pk.length := by simp
          rw [e] at h1
          omega
        refine compW_map (r := fun x : Str => .bl (decide (x ∈ l))) (hpc _) (le_sz (by omega)) ?_ ?_
        · intro x hx N3 acc ha hN3
          walk_at "dl"
          rw [e_inAL (hNm2 _)]
          refine ⟨rfl, flW_strs _, ?_⟩
          rw [inW_strs]
          walk_at "dl"
          exact ⟨ha, hN3⟩
        · have eb : (pk.map fun x : Str => DL.W.bl (decide (x ∈ l))) = (pk.map fun x => decide (x ∈ l)).map DL.W.bl := by
            rw [List.map_map]
            rfl
          rw [eb]
          refine ⟨pk.map fun x => decide (x ∈ l), get_app0, ?_⟩
          show vTru (.bl ((pk.map fun x => decide (x ∈ l)).any id)) _ _
          have eh : ((pk.map fun x => decide (x ∈ l)).any id) = hit l pk := by
            rw [List.any_map]
            rfl
          rw [eh]
          generalize (pk.map fun x => decide (x ∈ l)).map DL.W.bl = bls
          have eT : (S2 ++ stro (((partsK h i).take k).filter (hit l)).flatten :: O.lst (aps.map W.ref) :: G2) ++ [O.lst bls] = S2 ++ stro (((partsK h i).take k).filter (hit l)).flatten :: O.lst (aps.map W.ref) :: (G2 ++ [O.lst bls]) := by rw [List.append_assoc]; rfl
          rw [eT]
          have hfk : ((partsK h i).take (k + 1)).filter (hit l) = ((partsK h i).take k).filter (hit l) ++ (if hit l pk = true then [pk] else []) := by
            rw [take_snoc hpk, List.filter_append]
            congr 1
            rw [List.filter_cons]
            rfl
          have hfn : (((partsK h i).take (k + 1)).filter fun p => !hit l p) = (((partsK h i).take k).filter fun p => !hit l p) ++ (if (!hit l pk) = true then [pk] else []) := by
            rw [take_snoc hpk, List.filter_append]
            congr 1
            rw [List.filter_cons]
            rfl
          show vTru (.bl (hit l pk)) _ _
          show if hit l pk = true then _ else _
          split
          · rename_i hh
            rw [if_pos hh] at hfk
            rw [if_neg (by rw [hh]; decide), List.append_nil] at hfn
            refine ⟨.inl ⟨rfl, _, get_app0⟩, ?_⟩
            rw [e_extend (ws := ((((partsK h i).take k).filter (hit l)).flatten).map W.str) (us := pk.map W.str) get_app0 (hpc _)]
            rw [hfk, List.flatten_append, List.length_append] at hJ
            refine ⟨le_sz (by rw [List.length_map, List.length_map]; omega), ?_⟩
            rw [set_app0]
            refine hN2 _ _ ⟨aps, G2 ++ [O.lst bls], _, _, ?_, ?_, rfl⟩
            · rw [hfk, List.flatten_append]
              have e3 : [pk].flatten = pk := by simp
              rw [e3]
              unfold stro
              rw [List.map_append]
              rfl
            · rw [hfn]
              exact haps
          · rename_i hh
            have hh2 : hit l pk = false := by simpa using hh
            rw [if_neg hh, List.append_nil] at hfk
            rw [if_pos (by rw [hh2]; rfl)] at hfn
            refine ⟨.inl ⟨rfl, _, get_app⟩, ?_⟩
            rw [e_append (ws := aps.map W.ref) get_app, List.length_map]
            have hal : aps.length ≤ 50 := by
              rw [haps.len]
              refine Nat.le_trans (List.length_filter_le _ _) ?_
              rw [List.length_take]
              omega
            refine ⟨lt_sz (by omega), ?_⟩
            rw [set_app]
            refine hN2 _ _ ⟨aps ++ [p], G2 ++ [O.lst bls], _, _, ?_, ?_, rfl⟩
            · rw [hfk, List.map_append]
              rfl
            · rw [hfn]
              have hpc0 := hpc []
              rw [List.append_nil] at hpc0
              exact haps.snoc hpc0
      · rintro env S' ⟨aps, G2, x5, x7, rfl, haps, rfl⟩
        rw [List.length_map] at haps
        rw [List.length_map]
        have eT2 : (partsK h i).take ps.length = partsK h i := List.take_of_length_le (by rw [hps.len]; exact Nat.le_refl _)
        rw [eT2] at haps ⊢
        refine ⟨get_pre hpi, ?_⟩
        have hal : aps.length ≤ 50 := by
          rw [haps.len]
          exact Nat.le_trans (List.length_filter_le _ _) hPl
        walk_at "dl"
        refine ⟨le_sz (by omega), hN _ _ ⟨G ++ (stro ((partsK h i).filter (hit l)).flatten :: O.lst (aps.map W.ref) :: (G2 ++ [O.lst [DL.W.ref S2.length], O.lst (aps.map W.ref ++ [DL.W.ref S2.length])])), _, aps ++ [S2.length], _, _, _, _, _, _, ?_, ?_, ?_, rfl⟩⟩
        · rw [← hS2, List.append_assoc]
        · rw [get_app, List.getElem?_cons_succ, List.getElem?_cons_succ, get_app, List.map_append]
          rfl
        · have e1 : partsK h (i + 1) = stepP (partsK h i) l := by
            unfold partsK
            rw [take_snoc hl, List.foldl_append]
            rfl
          rw [e1]
          exact (haps.app _).snoc get_app0
    · rintro env S' ⟨G, pi, ps, x2, x3, x4, x5, x6, x7, rfl, hpi, hps, rfl⟩
      refine ⟨hLk G, ?_⟩
      have eR : (refsFrom Sa.length (links h).length).length = (links h).length := by unfold refsFrom; rw [List.length_map, List.length_range]
      rw [eR] at hps
      have eP : partsK h (links h).length = partsP h.names (links h) := by
        unfold partsK partsP
        rw [List.take_length]
      obtain ⟨lab, hpa⟩ := parts_k ok (links h).length
      rw [eP] at hps hpa
      have hPl : (partsP h.names (links h)).length ≤ 50 := by
        have h1 := len_le_flat _ hpa.ne
        have h2 := hpa.perm.length_eq
        rw [List.length_map] at h2
        omega
      obtain ⟨T0, hT0⟩ := hPre
      walk_at "dl"
      rw [e_seqL hpi]
      refine compW_inv (fun k acc S' => ∃ T, S' = S1 ++ G ++ T ∧ acc = (((partsP h.names (links h)).take k).map fun p => p.mergeSort strLe).map tupS) ⟨[], by simp, rfl⟩ ?_ ?_
      · rintro k x acc S' hx ⟨T, rfl, rfl⟩ N hN
        obtain ⟨p, hp, rfl, _, hk⟩ := map_get hx
        have hkP : k < (partsP h.names (links h)).length := by rw [← hps.len]; exact hk
        have hpk : (partsP h.names (links h))[k]? = some (partsP h.names (links h))[k] := List.getElem?_eq_getElem hkP
        generalize (partsP h.names (links h))[k] = pk at hpk
        have hpc : (S1 ++ G ++ T)[p]? = some (stro pk) := get_pre (hps.at_ k p pk hp hpk)
        refine ⟨get_pre hpi, ?_⟩
        walk_at "dl"
        refine sorted_strs_ok (xs := pk) (by rw [← List.append_assoc]; exact hpc) ?_
        walk_at "dl"
        refine ⟨lt_sz (by rw [List.length_take]; omega), hN _ _ ⟨T ++ [stro (pk.mergeSort strLe)], by simp, ?_⟩⟩
        rw [take_snoc hpk, List.map_append, List.map_append]
        rfl
      · rintro acc S' ⟨T, rfl, rfl⟩
        rw [List.length_map, hps.len, List.take_length]
        refine ⟨get_pre hpi, ?_⟩
        refine sorted_tups_ok get_app0 (fun xs hxs e => ?_) ?_
        · obtain ⟨p, hp, e2⟩ := List.mem_map.mp hxs
          have hz := List.length_mergeSort (le := strLe) p
          rw [e2, e] at hz
          exact hpa.ne p hp (List.eq_nil_of_length_eq_zero hz.symm)
        · rw [e_tupleL get_app0, hT0]
          have eA : (S ++ T0 ++ G ++ T ++ [O.lst (((partsP h.names (links h)).map fun p => p.mergeSort strLe).map tupS)]) ++ [O.lst ((outP h).map tupS)] = S ++ (T0 ++ (G ++ (T ++ ([O.lst (((partsP h.names (links h)).map fun p => p.mergeSort strLe).map tupS)] ++ [O.lst ((outP h).map tupS)])))) := by simp
          show Ends0 _ Q (.tup ((outP h).map tupS)) _
          refine Eq.mp (congrArg (Ends0 S.length Q (.tup ((outP h).map tupS))) eA.symm) ?_
          exact Ends0.drop _ (Nat.le_refl _) cl (pure_bnd _ _ (pureL_tups (outP h))) q
end K09

namespace K09
open PySem PySem.Spec PyProof.Rows L2 TL DL
local macro_rules | `(tactic| walk_at "dl") => `(tactic| try simp (config := { decide := false }) only [e_seq, e_asg, e_nm, e_op, e_un, e_cb, e_c, e_var, e_ifs, e_tru, e_B, e_drop, e_bm, e_bm0, e_ret, e_retN, e_next, e_break, e_cont, e_nil, e_cons, e_tup, e_lst, e_sl, e_onone, e_osome, e_gsub, e_call, e_callk, e_and, e_or, e_not, e_andv, e_orv, e_notv, e_notU, e_isI, e_isS, e_isT, e_isR, e_isN, e_if, e_par, e_for, e_comp, e_iseq, e_rng1, e_yes, e_gtp, e_gc, e_gn0,
  e_addI, e_addS, e_addT, e_addL, e_i20, e_i2, e_neg, e_cmpI, e_cmpS, e_eqI, e_eqS, e_eqB, e_ixT, e_ixLit, e_ixL, e_ixS, e_set, e_ixAT, e_ixALit, e_ixAL, e_ixAS, e_ixAD, e_setAL, e_setAD, e_dict0, e_inAL, e_inAT, e_inAD, e_inAS, e_listAT, e_listALit, e_listAL, e_listAD, e_max2, e_extend, e_isalpha, e_enum, keyW, sz0, sz1, sz2, sz3, sz4, sz5, sz6, O.dk.injEq, e_slT, e_slLit, e_slS, e_slL, e_lenAS, e_lenAT, e_lenALit, e_lenAL, e_lenAD, e_lenS, e_lenT, e_lenLit, e_lenL, e_i1, e_intI, e_intB, e_strI, e_strS, e_listT, e_listLit, e_listL, e_tupleT, e_tupleL, e_append, e_pop0, e_tyL, e_tyS, e_truL, e_truT, e_truB, e_truI, e_truS, e_truN, e_seqT, e_seqLit, e_seqL, e_in, e_inT, e_isi, kit_ll, kit_ss, tyW_L, tyW_S, tyW_T, tyW_I, tyW_B, cut_to1, cut_to2, cut_from1, wipeW_nil, wipeW_cons, Nat.reduceAdd, eq_self, List.map_cons, List.map_nil,
  atI_0, atI_1, atI_2, atI_3, atI_4, atI_5, atI_end, ixN_0, ixN_1, ixN_11, ixN_last, List.map_append, List.map_cons, List.map_nil, get_app, get_app0, set_app, set_app0, List.cons_append, List.nil_append, List.append_assoc, List.length_append, List.length_cons, List.length_nil, Nat.zero_add, List.length_map, List.length_set,
  List.getElem?_cons_zero, List.getElem?_cons_succ, List.set_cons_zero, List.set_cons_succ, Option.some.injEq, exists_eq_left', exists_eq_left, exists_and_left, W.int.injEq, W.bl.injEq, W.str.injEq, W.tup.injEq, W.ref.injEq, O.lst.injEq, List.cons.injEq, reduceCtorEq, false_and, exists_false, or_false, false_or, true_and, and_true, decide_eq_true_eq, Bool.false_xor, Bool.true_xor, Bool.not_eq_true', decide_eq_false_iff_not, List.isEmpty_cons, List.isEmpty_nil, Bool.not_true, Bool.not_false, if_true, if_false, not_true_eq_false, not_false_eq_true, ne_eq, Bool.false_eq_true, reduceIte])

/-! ### _law_parts -/
def Rule.group (r : Rule) : List Str := r.body.map Row.t ++ [r.head.t]
def groups (h : House) : List (List Str) := h.rules.map Rule.group ++ h.kept.map Kept.names
def labF (h : House) : Str → Int := (groups h).foldl stepL (lab0 h.names)
def outL (h : House) : List (List Str) := (classes h.names (labF h)).mergeSort tupLe
theorem out_eq {h : House} (ok : OkHouse h) : outP h = outL h := by
  have z := parts_all (ns := h.names) (h.rules.map (fun r => (r.names, r.group)) ++ h.kept.map (fun r => (r.names, r.names))) _ _ (parts_start lab0_inj) fun q hq => by
    rcases List.mem_append.mp hq with hq | hq
    · obtain ⟨r, hr, rfl⟩ := List.mem_map.mp hq
      have := links_ok ok r.names (List.mem_append_left _ (List.mem_map.mpr ⟨r, hr, rfl⟩))
      refine ⟨this.1, this.2, fun x => ?_⟩
      show x ∈ r.body.map Row.t ++ [r.head.t] ↔ x ∈ r.head.t :: r.body.map Row.t
      rw [List.mem_append, List.mem_singleton, List.mem_cons]
      exact Or.comm
    · obtain ⟨r, hr, rfl⟩ := List.mem_map.mp hq
      have := links_ok ok r.names (List.mem_append_right _ (List.mem_map.mpr ⟨r, hr, rfl⟩))
      exact ⟨this.1, this.2, fun x => Iff.rfl⟩
  have e1 : (h.rules.map (fun r => (r.names, r.group)) ++ h.kept.map (fun r => (r.names, r.names))).map (fun q : List Str × List Str => q.1) = links h := by
    rw [List.map_append, List.map_map, List.map_map]
    rfl
  have e2 : (h.rules.map (fun r => (r.names, r.group)) ++ h.kept.map (fun r => (r.names, r.names))).map (fun q : List Str × List Str => q.2) = groups h := by
    rw [List.map_append, List.map_map, List.map_map]
    rfl
  rw [e1, e2] at z
  exact parts_same ok.nd z
theorem ListsAt.both {S : Sto} {ps qs : List Nat} {P R : List (List Str)} (h : ListsAt S ps P) (g : ListsAt S qs R) : ListsAt S (ps ++ qs) (P ++ R) := by
  refine ⟨by simp [h.len, g.len], fun k p l h1 h2 => ?_⟩
  by_cases hk : k < ps.length
  · rw [List.getElem?_append_left hk] at h1
    rw [List.getElem?_append_left (by rw [← h.len]; exact hk)] at h2
    exact h.at_ k p l h1 h2
  · rw [List.getElem?_append_right (by omega)] at h1
    rw [List.getElem?_append_right (by rw [← h.len]; omega), ← h.len] at h2
    exact g.at_ _ p l h1 h2
theorem listsAt_swap {S G : Sto} {X : O} {ns : List Str} {a b : Str → Int} {gs : List Nat} {P : List (List Str)} (h : ListsAt (S ++ X :: dkF ns a :: G) gs P) : ListsAt (S ++ X :: dkF ns b :: G) gs P := by
  refine ⟨h.len, fun k p l h1 h2 => ?_⟩
  have z := h.at_ k p l h1 h2
  by_cases e : p = S.length + 1
  · subst e
    rw [get_app] at z
    cases z
  · have e1 : S ++ X :: dkF ns b :: G = (S ++ X :: dkF ns a :: G).set (S.length + 1) (dkF ns b) := by
      rw [set_app]
      rfl
    rw [e1, List.getElem?_set_ne (fun q => e q.symm)]
    exact z
theorem groups_ok {h : House} (ok : OkHouse h) : ∀ g ∈ groups h, ∀ x ∈ g, x ∈ h.names := by
  intro g hg x hx
  rcases List.mem_append.mp hg with hg | hg
  · obtain ⟨r, hr, rfl⟩ := List.mem_map.mp hg
    refine (links_ok ok r.names (List.mem_append_left _ (List.mem_map.mpr ⟨r, hr, rfl⟩))).1 x ?_
    rcases List.mem_append.mp hx with hx | hx
    · exact List.mem_cons_of_mem _ hx
    · rw [List.mem_singleton.mp hx]
      exact List.mem_cons_self ..
  · obtain ⟨r, hr, rfl⟩ := List.mem_map.mp hg
    exact (links_ok ok r.names (List.mem_append_right _ (List.mem_map.mpr ⟨r, hr, rfl⟩))).1 x hx
def hd0 (g : List Str) : Str := match g with
  | [] => Str.ofString ""
  | x :: _ => x
theorem stepL_hd (lab : Str → Int) (g : List Str) : stepL lab g = g.foldl (stepL1 (hd0 g)) lab := by
  cases g <;> rfl
def F_lparts : DSpec := fun ws S Q => ∃ h, ws = [House.enc h] ∧ OkHouse h ∧ Q (.tup ((outL h).map tupS)) S
theorem addL_len : ∀ (l acc : List (List Str)), (l.foldl addL acc).length ≤ acc.length + l.length
  | [], acc => Nat.le_refl _
  | x :: l, acc => by
    rw [List.foldl_cons]
    refine Nat.le_trans (addL_len l _) ?_
    unfold addL
    rw [List.length_cons]
    split
    · omega
    · rw [List.length_append]
      simp
      omega
theorem lp_end {S G : Sto} {X : O} {h : House} {lab : Str → Int} {gi : Nat} {Q : WK} {x3 x4 x5 x6 x7 x8 x9 x10 x11 x12 x13 x14 x15 : Option DL.W} (ok : OkHouse h) (cl : Closed S) (q : Q (.tup (((classes h.names lab).mergeSort tupLe).map tupS)) S) :
    (dSeq (dAsg (dLst aNil) (gNm 8))
            (dSeq
              (dFor (iSeq (dOp vIxA (dVar 0) (dC (.int 0)))) (gTp 2 (gC (gNm 6) (gC (gNm 7) gN0)))
                (dSeq
                  (dAsg
                    (dCB vTuple
                      (aCons
                        (dCB vSorted
                          (aCons
                            (dComp (iSeq (dOp vIxA (dVar 0) (dC (.int 0)))) (gTp 2 (gC (gNm 4) (gC (gNm 15) gN0)))
                              (dB (dOp vEq (dOp vIxA (dVar 1) (dVar 4)) (dOp vIxA (dVar 1) (dVar 6)))) (dVar 4) [4, 15])
                            aNil))
                        aNil))
                    (gNm 9))
                  (dIfS (dB (dOp (vInP true) (dVar 9) (dVar 8)))
                    (dDrop (dBM "list" vAppend (dVar 8) (aCons (dVar 9) aNil))) dNext)))
              (dRet (dCB vTuple (aCons (dCB vSorted (aCons (dVar 8) aNil)) aNil))))) (endsW S.length Q) [some (House.enc h), some (.ref (S.length + 1)), some (.ref gi), x3, x4, x5, x6, x7, x8, x9, x10, x11, x12, x13, x14, x15] (S ++ X :: dkF h.names lab :: G) := by
  have hx0 : ∀ {S : Sto} {Q : WK}, vIxA (House.enc h) (.int 0) S Q = Q (.tup (h.tabs.map tabE)) S := e_ixAT rfl
  have hnt := ok.nt
  have hD : ∀ G' : Sto, (S ++ X :: dkF h.names lab :: G')[S.length + 1]? = some (dkF h.names lab) := fun G' => get_app
  walk_at "dl"
  rw [hx0]
  walk_at "dl"
  refine forW_inv (fun i env S1 => ∃ G5 x6 x7 x9, S1 = S ++ X :: dkF h.names lab :: (G ++ .lst ((((h.names.take i).map (classOf h.names lab)).foldl addL []).map tupS) :: G5) ∧ env = [some (House.enc h), some (.ref (S.length + 1)), some (.ref gi), x3, x4, x5, x6, x7, some (.ref (S.length + (G.length + 1 + 1))), x9, x10, x11, x12, x13, x14, x15]) ⟨[], _, _, _, rfl, rfl⟩ ?_ ?_
  · rintro i x env S1 hx ⟨G5, x6, x7, x9, rfl, rfl⟩ N hN
    obtain ⟨tb, htb, rfl, _, hi⟩ := map_get hx
    have hni : h.names[i]? = some tb.1 := by rw [List.getElem?_map, htb]; rfl
    have htn : tb.1 ∈ h.names := List.mem_of_getElem? hni
    refine ⟨trivial, ?_⟩
    generalize hacc : ((h.names.take i).map (classOf h.names lab)).foldl addL [] = acc
    have hok : ∀ xs ∈ acc, ∀ x ∈ xs, PyData.strOk x = true := by
      intro xs hxs x hx
      rw [← hacc, (foldL _ [] List.nodup_nil).2] at hxs
      rcases hxs with hxs | hxs
      · cases hxs
      · obtain ⟨t, _, rfl⟩ := List.mem_map.mp hxs
        exact (ok.okn x (List.mem_filter.mp (List.mem_mergeSort.mp hx)).1).2
    have hlen : acc.length ≤ i := by
      rw [← hacc]
      refine Nat.le_trans (addL_len _ []) ?_
      rw [List.length_map, List.length_take, List.length_nil]
      omega
    unfold tabE
    walk_at "dl"
    rw [hx0]
    walk_at "dl"
    generalize hT : S ++ X :: dkF h.names lab :: (G ++ O.lst (acc.map tupS) :: G5) = T
    have hD2 : T[S.length + 1]? = some (dkF h.names lab) := by rw [← hT]; exact get_app
    have eS : S.length + (G.length + 1 + 1) = (S ++ X :: dkF h.names lab :: G).length := by simp
    have eTT : ∀ o L, S ++ X :: dkF h.names lab :: (G ++ o :: L) = (S ++ X :: dkF h.names lab :: G) ++ o :: L := fun o L => by simp
    have hA : T[S.length + (G.length + 1 + 1)]? = some (.lst (acc.map tupS)) := by
      rw [← hT, eTT, eS]
      exact get_app0
    have hset : ∀ L o2, (T ++ L).set (S.length + (G.length + 1 + 1)) o2 = S ++ X :: dkF h.names lab :: (G ++ o2 :: (G5 ++ L)) := fun L o2 => by
      rw [← hT, eTT, eTT, eS, List.append_assoc, List.cons_append, set_app0]
      rfl
    refine compW_inv (fun j a S2 => S2 = T ∧ a = ((h.names.take j).filter fun x => decide (lab x = lab tb.1)).map W.str) ⟨rfl, rfl⟩ ?_ ?_
    · rintro j x a S2 hx2 ⟨e, rfl⟩ N2 hN2
      subst e
      obtain ⟨tb2, htb2, rfl, _, hj⟩ := map_get hx2
      have hnj : h.names[j]? = some tb2.1 := by rw [List.getElem?_map, htb2]; rfl
      have htn2 : tb2.1 ∈ h.names := List.mem_of_getElem? hnj
      refine ⟨trivial, ?_⟩
      unfold tabE
      walk_at "dl"
      rw [e_ixAD hD2 rfl (dkF_val htn2), e_ixAD hD2 rfl (dkF_val htn)]
      rw [take_snoc hnj, List.filter_append, List.map_append] at hN2
      walk_at "dl"
      have hfl := List.length_filter_le (fun x => decide (lab x = lab tb.1)) (h.names.take j)
      rw [List.length_take] at hfl
      split
      · rename_i e
        refine ⟨lt_sz (by omega), hN2 _ _ ⟨rfl, ?_⟩⟩
        rw [List.filter_cons_of_pos (by simpa using e)]
        rfl
      · rename_i e
        refine hN2 _ _ ⟨rfl, ?_⟩
        rw [List.filter_cons_of_neg (by simpa using e)]
        simp
    · rintro a S2 ⟨rfl, rfl⟩
      refine ⟨trivial, ?_⟩
      have eT : h.names.take (h.tabs.map tabE).length = h.names := List.take_of_length_le (by rw [List.length_map, List.length_map]; exact Nat.le_refl _)
      rw [eT]
      walk_at "dl"
      refine sorted_strs_ok get_app0 ?_
      rw [e_tupleL get_app0]
      walk_at "dl"
      have hc : ((h.names.filter fun x => decide (lab x = lab tb.1)).mergeSort strLe) = classOf h.names lab tb.1 := rfl
      rw [hc]
      have hcok : ∀ y ∈ classOf h.names lab tb.1, PyData.strOk y = true := fun y hy => (ok.okn y (List.mem_filter.mp (List.mem_mergeSort.mp hy)).1).2
      have hN3 : N = N := rfl
      refine inP_tups true (get_pre hA) hok hcok ?_
      rw [Bool.true_xor]
      refine ⟨_, rfl, ?_⟩
      have es : ((h.names.take (i + 1)).map (classOf h.names lab)).foldl addL [] = addL acc (classOf h.names lab tb.1) := by
        rw [take_snoc hni, List.map_append, List.foldl_append, hacc]
        rfl
      by_cases hin : classOf h.names lab tb.1 ∈ acc
      · rw [if_neg (by simp [hin])]
        refine hN _ _ ⟨G5 ++ [O.lst (List.map W.str (List.filter (fun x => decide (lab x = lab tb.fst)) h.names)), stro (classOf h.names lab tb.fst)], _, _, _, ?_, rfl⟩
        have ea : addL acc (classOf h.names lab tb.1) = acc := if_pos hin
        rw [es, ea, ← hT, eTT, eTT, List.append_assoc, List.cons_append]
      · rw [if_pos (by simp [hin])]
        have ea : addL acc (classOf h.names lab tb.1) = acc ++ [classOf h.names lab tb.1] := if_neg hin
        rw [e_tyL (get_pre hA), e_append (get_pre hA), hset]
        refine ⟨trivial, lt_sz (by rw [List.length_map]; omega), hN _ _ ⟨G5 ++ [O.lst (List.map W.str (List.filter (fun x => decide (lab x = lab tb.fst)) h.names)), stro (classOf h.names lab tb.fst)], _, _, _, ?_, rfl⟩⟩
        rw [es, ea, List.map_append]
        rfl
  · rintro env S1 ⟨G5, x6, x7, x9, rfl, rfl⟩
    refine ⟨trivial, ?_⟩
    have eT : h.names.take (h.tabs.map tabE).length = h.names := List.take_of_length_le (by rw [List.length_map, List.length_map]; exact Nat.le_refl _)
    rw [eT]
    walk_at "dl"
    have eS : S.length + (G.length + 1 + 1) = (S ++ X :: dkF h.names lab :: G).length := by simp
    have eL : S ++ X :: dkF h.names lab :: (G ++ O.lst (List.map tupS (List.foldl addL [] (List.map (classOf h.names lab) h.names))) :: G5) = (S ++ X :: dkF h.names lab :: G) ++ O.lst (List.map tupS (List.foldl addL [] (List.map (classOf h.names lab) h.names))) :: G5 := by simp
    rw [eS, eL]
    refine sorted_tups_ok get_app0 ?_ ?_
    · intro c hc
      rw [(foldL _ [] List.nodup_nil).2] at hc
      rcases hc with hc | hc
      · cases hc
      · obtain ⟨t, ht, rfl⟩ := List.mem_map.mp hc
        intro e
        have : t ∈ classOf h.names lab t := List.mem_mergeSort.mpr (List.mem_filter.mpr ⟨ht, by simp⟩)
        rw [e] at this
        cases this
    · rw [e_tupleL get_app0]
      rw [List.append_assoc, List.append_assoc]
      exact Ends0.drop _ (Nat.le_refl _) cl (pure_bnd _ _ (pureL_tups _)) q
theorem lp_loops {S G : Sto} {X : O} {h : House} {gi : Nat} {ids : List Nat} {Q : WK} {x3 x4 x5 x6 x7 x8 x9 x10 x11 x12 x13 x14 x15 : Option DL.W} (ok : OkHouse h) (cl : Closed S) (hGi : ∀ lab, (S ++ X :: dkF h.names lab :: G)[gi]? = some (.lst (ids.map W.ref))) (hGs : ∀ lab, ListsAt (S ++ X :: dkF h.names lab :: G) ids (groups h)) (q : Q (.tup ((outL h).map tupS)) S) :
    forW (gNm 3) (dFor (iSeq (dVar 3)) (gNm 4)
        (dSeq (dAsg (dOp vIxA (dVar 1) (dVar 4)) (gNm 5))
          (dFor (iSeq (dOp vIxA (dVar 0) (dC (.int 0)))) (gTp 2 (gC (gNm 6) (gC (gNm 7) gN0)))
            (dIfS (dB (dOp vEq (dOp vIxA (dVar 1) (dVar 6)) (dVar 5)))
              (dAsg (dOp vIxA (dVar 1) (dOp vIxA (dVar 3) (dC (.int 0)))) (gSb (dVar 1) (dVar 6) vSetA)) dNext)))) (fun S1 => S1[gi]? = some (.lst (ids.map W.ref))) (ids.map W.ref)
      { nx := (dSeq (dAsg (dLst aNil) (gNm 8))
            (dSeq
              (dFor (iSeq (dOp vIxA (dVar 0) (dC (.int 0)))) (gTp 2 (gC (gNm 6) (gC (gNm 7) gN0)))
                (dSeq
                  (dAsg
                    (dCB vTuple
                      (aCons
                        (dCB vSorted
                          (aCons
                            (dComp (iSeq (dOp vIxA (dVar 0) (dC (.int 0)))) (gTp 2 (gC (gNm 4) (gC (gNm 15) gN0)))
                              (dB (dOp vEq (dOp vIxA (dVar 1) (dVar 4)) (dOp vIxA (dVar 1) (dVar 6)))) (dVar 4) [4, 15])
                            aNil))
                        aNil))
                    (gNm 9))
                  (dIfS (dB (dOp (vInP true) (dVar 9) (dVar 8)))
                    (dDrop (dBM "list" vAppend (dVar 8) (aCons (dVar 9) aNil))) dNext)))
              (dRet (dCB vTuple (aCons (dCB vSorted (aCons (dVar 8) aNil)) aNil))))) (endsW S.length Q), rt := Ends0 S.length Q, bk := fun _ _ => False, ct := fun _ _ => False }
      [some (House.enc h), some (.ref (S.length + 1)), some (.ref gi), x3, x4, x5, x6, x7, x8, x9, x10, x11, x12, x13, x14, x15] (S ++ X :: dkF h.names (lab0 h.names) :: G) := by
  have hx0 : ∀ {S : Sto} {Q : WK}, vIxA (House.enc h) (.int 0) S Q = Q (.tup (h.tabs.map tabE)) S := e_ixAT rfl
  have hD : ∀ lab, (S ++ X :: dkF h.names lab :: G)[S.length + 1]? = some (dkF h.names lab) := fun lab => get_app
  have hnt := ok.nt
  refine forW_inv (fun i env S1 => ∃ x3 x4 x5 x6 x7, S1 = S ++ X :: dkF h.names (((groups h).take i).foldl stepL (lab0 h.names)) :: G ∧ env = [some (House.enc h), some (.ref (S.length + 1)), some (.ref gi), x3, x4, x5, x6, x7, x8, x9, x10, x11, x12, x13, x14, x15]) ⟨_, _, _, _, _, rfl, rfl⟩ ?_ ?_
  · rintro i x env S1 hx ⟨x3, x4, x5, x6, x7, rfl, rfl⟩ N hN
    obtain ⟨p, hp, rfl, _, hi⟩ := map_get hx
    have hig : i < (groups h).length := by rw [← (hGs (lab0 h.names)).len]; exact hi
    have hg : (groups h)[i]? = some (groups h)[i] := List.getElem?_eq_getElem hig
    generalize (groups h)[i] = g at hg
    have hpc : ∀ lab, (S ++ X :: dkF h.names lab :: G)[p]? = some (stro g) := fun lab => (hGs lab).at_ i p g hp hg
    refine ⟨hGi _, ?_⟩
    generalize hlab : ((groups h).take i).foldl stepL (lab0 h.names) = lab
    have hgin := groups_ok ok g (List.mem_of_getElem? hg)
    walk_at "dl"
    rw [e_seqL (hpc lab)]
    refine forW_inv (fun k env S1 => ∃ x4 x5 x6 x7, S1 = S ++ X :: dkF h.names ((g.take k).foldl (stepL1 (hd0 g)) lab) :: G ∧ env = [some (House.enc h), some (.ref (S.length + 1)), some (.ref gi), some (.ref p), x4, x5, x6, x7, x8, x9, x10, x11, x12, x13, x14, x15]) ⟨_, _, _, _, rfl, rfl⟩ ?_ ?_
    · rintro k x env S1 hx ⟨x4, x5, x6, x7, rfl, rfl⟩ N2 hN2
      obtain ⟨name, hnm, rfl, hnm2, hk⟩ := map_get hx
      have hnn := hgin name hnm2
      have hg0 : (g.map W.str)[0]? = some (W.str (hd0 g)) := by
        cases g with
        | nil => cases hnm2
        | cons g0 r => rfl
      have hg0n : hd0 g ∈ h.names := by
        cases g with
        | nil => cases hnm2
        | cons g0 r => exact hgin g0 (List.mem_cons_self ..)
      refine ⟨hpc _, ?_⟩
      generalize hlab2 : (g.take k).foldl (stepL1 (hd0 g)) lab = lab2
      walk_at "dl"
      rw [e_ixAD (hD _) rfl (dkF_val hnn)]
      walk_at "dl"
      rw [hx0]
      walk_at "dl"
      refine forW_inv (fun j env S1 => ∃ x6 x7, S1 = S ++ X :: dkF h.names (fun x => if x ∈ h.names.take j then stepL1 (hd0 g) lab2 name x else lab2 x) :: G ∧ env = [some (House.enc h), some (.ref (S.length + 1)), some (.ref gi), some (.ref p), some (.str name), some (.int (lab2 name)), x6, x7, x8, x9, x10, x11, x12, x13, x14, x15]) ⟨_, _, ?_, rfl⟩ ?_ ?_
      · congr 2
      · rintro j x env S1 hx ⟨x6, x7, rfl, rfl⟩ N3 hN3
        obtain ⟨tb, htb, rfl, _, hj⟩ := map_get hx
        have hni : h.names[j]? = some tb.1 := by rw [List.getElem?_map, htb]; rfl
        have htn : tb.1 ∈ h.names := List.mem_of_getElem? hni
        have hnot := not_in_take ok.nd hni
        refine ⟨trivial, ?_⟩
        unfold tabE
        walk_at "dl"
        rw [e_ixAD (hD _) rfl (dkF_val htn)]
        walk_at "dl"
        rw [if_neg hnot]
        split
        · rename_i he
          rw [e_ixAL (k := 0) (hpc _) (atI_nat (j := 0) hg0), e_ixAD (hD _) rfl (dkF_val hg0n)]
          have ev : (if hd0 g ∈ h.names.take j then stepL1 (hd0 g) lab2 name (hd0 g) else lab2 (hd0 g)) = lab2 (hd0 g) := by
            unfold stepL1
            split
            · split <;> rfl
            · rfl
          rw [ev, e_setAD (hD _) rfl, dkF_put htn]
          refine ⟨lt_sz (by rw [List.length_map, List.length_map]; omega), hN3 _ _ ⟨_, _, ?_, rfl⟩⟩
          rw [set_app]
          show S ++ X :: (dkF h.names _) :: G = _
          congr 3
          refine dkF_cong fun n hn => ?_
          rw [take_snoc hni]
          by_cases e : n = tb.1
          · subst e
            rw [if_pos rfl, if_pos (by simp)]
            unfold stepL1
            rw [if_pos he]
          · rw [if_neg e]
            by_cases hin : n ∈ h.names.take j
            · rw [if_pos hin, if_pos (List.mem_append_left _ hin)]
            · rw [if_neg hin, if_neg (fun q => (List.mem_append.mp q).elim hin fun q => e (List.mem_singleton.mp q))]
        · rename_i he
          refine hN3 _ _ ⟨_, _, ?_, rfl⟩
          congr 3
          refine dkF_cong fun n hn => ?_
          rw [take_snoc hni]
          by_cases hin : n ∈ h.names.take j
          · rw [if_pos hin, if_pos (List.mem_append_left _ hin)]
          · rw [if_neg hin]
            by_cases e : n = tb.1
            · subst e
              rw [if_pos (by simp)]
              unfold stepL1
              rw [if_neg he]
            · rw [if_neg (fun q => (List.mem_append.mp q).elim hin fun q => e (List.mem_singleton.mp q))]
      · rintro env S1 ⟨x6, x7, rfl, rfl⟩
        refine ⟨trivial, hN2 _ _ ⟨_, _, _, _, ?_, rfl⟩⟩
        congr 3
        refine dkF_cong fun n hn => ?_
        rw [take_snoc hnm, List.foldl_append, hlab2, List.length_map]
        have eT : h.names.take h.tabs.length = h.names := List.take_of_length_le (by rw [List.length_map]; exact Nat.le_refl _)
        rw [eT, if_pos hn]
        rfl
    · rintro env S1 ⟨x4, x5, x6, x7, rfl, rfl⟩
      refine ⟨hpc _, hN _ _ ⟨_, _, _, _, _, ?_, rfl⟩⟩
      rw [List.length_map, List.take_length, take_snoc hg, List.foldl_append, hlab]
      show _ = S ++ X :: dkF h.names (stepL lab g) :: G
      rw [stepL_hd]
  · rintro env S1 ⟨x3, x4, x5, x6, x7, rfl, rfl⟩
    refine ⟨hGi _, ?_⟩
    have eT : (groups h).take (ids.map W.ref).length = groups h := List.take_of_length_le (by rw [List.length_map, (hGs (lab0 h.names)).len]; exact Nat.le_refl _)
    rw [eT]
    exact lp_end ok cl q
theorem vc_lparts : ∀ ws S Q, Closed S → F_lparts ws S Q → d_law_parts (endsW S.length Q) (startW N_law_parts.length ws) S := by
  rintro ws S Q cl ⟨h, rfl, ok, q⟩
  show d_law_parts _ [some _, none, none, none, none, none, none, none, none, none, none, none, none, none, none, none] _
  unfold d_law_parts
  have hx0 : ∀ {S : Sto} {Q : WK}, vIxA (House.enc h) (.int 0) S Q = Q (.tup (h.tabs.map tabE)) S := e_ixAT rfl
  have hx3 : ∀ {S : Sto} {Q : WK}, vIxA (House.enc h) (.int 3) S Q = Q (.tup (h.rules.map Rule.enc)) S := e_ixAT rfl
  have hx5 : ∀ {S : Sto} {Q : WK}, vIxA (House.enc h) (.int 5) S Q = Q (.tup (h.kept.map Kept.enc)) S := e_ixAT rfl
  have hnt := ok.nt
  have hnr := ok.nr
  have hnk := ok.nk
  walk_at "dl"
  rw [hx0]
  walk_at "dl"
  refine ⟨by omega, by omega, ?_⟩
  refine compW_inv (fun i acc S' => S' = S ∧ acc = ((h.names.take i).map fun n => ((Sum.inr n : Key), DL.W.int (lab0 h.names n))).map pairW) ⟨rfl, rfl⟩ ?_ ?_
  · rintro i x acc S' hx ⟨rfl, rfl⟩ N hN
    obtain ⟨hi, rfl⟩ := rng_get hx
    have hi2 : i < h.tabs.length := by omega
    have htb : h.tabs[i]? = some h.tabs[i] := List.getElem?_eq_getElem hi2
    generalize h.tabs[i] = tb at htb
    have hni : h.names[i]? = some tb.1 := by rw [List.getElem?_map, htb]; rfl
    refine ⟨trivial, ?_⟩
    walk_at "dl"
    rw [hx0, e_ixAT (w := tabE tb) (atI_nat (by rw [List.getElem?_map, htb]; rfl))]
    unfold tabE
    walk_at "dl"
    refine ⟨lt_sz (by rw [List.length_take, List.length_map]; omega), hN _ _ ⟨rfl, ?_⟩⟩
    rw [take_snoc hni, List.map_append, List.map_append]
    have e : lab0 h.names tb.1 = (i : Int) := by
      unfold lab0
      obtain ⟨hi3, e3⟩ := List.getElem?_eq_some_iff.mp hni
      rw [← e3, List.Nodup.idxOf_getElem ok.nd]
    show _ = _ ++ [pairW (Sum.inr tb.1, DL.W.int (lab0 h.names tb.1))]
    rw [e]
    rfl
  · rintro acc S' ⟨rfl, rfl⟩
    rw [rng_len]
    refine ⟨trivial, ?_⟩
    have eT : h.names.take ((h.tabs.length : Nat) : Int).toNat = h.names := List.take_of_length_le (by rw [List.length_map]; omega)
    rw [eT]
    generalize hX : O.lst ((h.names.map fun n => ((Sum.inr n : Key), DL.W.int (lab0 h.names n))).map pairW) = X
    rw [e_dictP (kws := h.names.map fun n => ((Sum.inr n : Key), DL.W.int (lab0 h.names n))) (by rw [← hX]; exact get_app0)]
    have e1 : mergeW [] (h.names.map fun n => ((Sum.inr n : Key), DL.W.int (lab0 h.names n))) = h.names.map fun n => ((Sum.inr n : Key), DL.W.int (lab0 h.names n)) :=
      merge_nodup (acc := []) (F := lab0 h.names) ok.nd
    rw [e1]
    walk_at "dl"
    rw [hx3]
    walk_at "dl"
    refine compW_inv (fun i acc S2 => ∃ gs T, S2 = S' ++ X :: dkF h.names (lab0 h.names) :: T ∧ acc = gs.map W.ref ∧ ListsAt S2 gs ((h.rules.take i).map Rule.group)) ⟨[], [], rfl, rfl, ⟨rfl, fun k p l h1 => (by cases h1)⟩⟩ ?_ ?_
    · rintro i x acc S2 hx ⟨gs, T, rfl, rfl, hgs⟩ N hN
      obtain ⟨r, hr, rfl, hrm, hi⟩ := map_get hx
      refine ⟨trivial, ?_⟩
      have hbl := (ok.rules r hrm).2
      have hgl : gs.length ≤ 100 := by
        rw [hgs.len, List.length_map, List.length_take]
        omega
      unfold Rule.enc
      walk_at "dl"
      refine compW_map (r := fun row : Row => .str row.t) trivial (le_sz (by omega)) ?_ ?_
      · intro row hrow N3 acc ha hN3
        unfold Row.enc
        walk_at "dl"
        exact ⟨ha, hN3⟩
      · generalize hS2 : S' ++ X :: dkF h.names (lab0 h.names) :: T = S2 at hgs
        unfold Row.enc
        walk_at "dl"
        have eg : (r.body.map fun row : Row => DL.W.str row.t) ++ [DL.W.str r.head.t] = r.group.map W.str := by
          unfold Rule.group
          rw [List.map_append, List.map_map]
          rfl
        rw [eg]
        refine ⟨le_sz (by omega), lt_sz (by omega), hN _ _ ⟨gs ++ [S2.length + 2], T ++ [O.lst (r.body.map fun row : Row => DL.W.str row.t), O.lst [DL.W.str r.head.t], stro r.group], ?_, ?_, ?_⟩⟩
        · rw [← hS2, List.append_assoc]
          rfl
        · rw [List.map_append]
          rfl
        · rw [take_snoc hr, List.map_append]
          exact (hgs.app _).snoc get_app
    · rintro acc S2 ⟨gs, T, rfl, rfl, hgs⟩
      rw [List.length_map, List.take_length] at hgs
      refine ⟨trivial, ?_⟩
      walk_at "dl"
      rw [hx5]
      walk_at "dl"
      refine compW_inv (fun i acc S2 => ∃ ks T2, S2 = S' ++ X :: dkF h.names (lab0 h.names) :: (T ++ O.lst (gs.map W.ref) :: T2) ∧ acc = ks.map W.ref ∧ ListsAt S2 ks ((h.kept.take i).map Kept.names)) ⟨[], [], rfl, rfl, ⟨rfl, fun k p l h1 => (by cases h1)⟩⟩ ?_ ?_
      · rintro i x acc S2 hx ⟨ks, T2, rfl, rfl, hks⟩ N hN
        obtain ⟨r, hr, rfl, hrm, hi⟩ := map_get hx
        refine ⟨trivial, ?_⟩
        have hbl := ok.kept r hrm
        have hgl : ks.length ≤ 100 := by
          rw [hks.len, List.length_map, List.length_take]
          omega
        unfold Kept.enc
        walk_at "dl"
        refine compW_map (r := fun row : Row => .str row.t) trivial (le_sz (by omega)) ?_ ?_
        · intro row hrow N3 acc ha hN3
          unfold Row.enc
          walk_at "dl"
          exact ⟨ha, hN3⟩
        · generalize hS2 : S' ++ X :: dkF h.names (lab0 h.names) :: (T ++ O.lst (gs.map W.ref) :: T2) = S2 at hks
          have eA : S' ++ X :: dkF h.names (lab0 h.names) :: (T ++ O.lst (gs.map W.ref) :: (T2 ++ [O.lst [DL.W.str r.t]])) = S2 ++ [O.lst [DL.W.str r.t]] := by
            rw [← hS2]
            simp
          have eN : S'.length + (T.length + (T2.length + 1) + 1 + 1) = S2.length := by
            rw [← hS2]
            simp
          have eL : (S2 ++ [O.lst [DL.W.str r.t]]).length = S2.length + 1 := by simp
          have eB : (S2 ++ [O.lst [DL.W.str r.t]]) ++ [O.lst (r.body.map fun row : Row => DL.W.str row.t)] = S2 ++ [O.lst [DL.W.str r.t], O.lst (r.body.map fun row : Row => DL.W.str row.t)] := by rw [List.append_assoc]; rfl
          have eg : [DL.W.str r.t] ++ (r.body.map fun row : Row => DL.W.str row.t) = r.names.map W.str := by
            unfold Kept.names
            rw [List.map_cons, List.map_map]
            rfl
          rw [eA, eN, eL, eB, e_addL (a := [.str r.t]) (b := r.body.map fun row : Row => DL.W.str row.t) get_app0 get_app, eg]
          refine ⟨le_sz (by rw [List.length_map]; show 1 + _ ≤ _; omega), lt_sz (by omega), hN _ _ ⟨ks ++ [S2.length + 2], T2 ++ [O.lst [DL.W.str r.t], O.lst (r.body.map fun row : Row => DL.W.str row.t), stro r.names], ?_, ?_, ?_⟩⟩
          · rw [← hS2]
            simp
          · rw [List.map_append]
            simp
          · rw [take_snoc hr, List.map_append, List.append_assoc]
            have z := (hks.app ([O.lst [DL.W.str r.t], O.lst (r.body.map fun row : Row => DL.W.str row.t)] ++ [stro r.names])).snoc (p := S2.length + 2) (l := r.names) get_app
            exact z
      · rintro acc S2 ⟨ks, T2, rfl, rfl, hks⟩
        rw [List.length_map, List.take_length] at hks
        refine ⟨trivial, ?_⟩
        walk_at "dl"
        refine ⟨le_sz (by rw [hgs.len, hks.len, List.length_map, List.length_map]; have := ok.nr; have := ok.nk; omega), ?_⟩
        have hall : ∀ lab, ListsAt (S' ++ X :: dkF h.names lab :: (T ++ O.lst (gs.map W.ref) :: (T2 ++ [O.lst (ks.map W.ref), O.lst (gs.map W.ref ++ ks.map W.ref)]))) (gs ++ ks) (groups h) := fun lab => by
          refine listsAt_swap (a := lab0 h.names) ?_
          have z1 := hgs.app (O.lst (gs.map W.ref) :: (T2 ++ [O.lst (ks.map W.ref), O.lst (gs.map W.ref ++ ks.map W.ref)]))
          have z2 := hks.app [O.lst (ks.map W.ref), O.lst (gs.map W.ref ++ ks.map W.ref)]
          rw [List.append_assoc] at z1 z2
          rw [List.cons_append, List.cons_append, List.append_assoc, List.cons_append] at z2
          exact z1.both z2
        have z := lp_loops (S := S') (G := T ++ O.lst (gs.map W.ref) :: (T2 ++ [O.lst (ks.map W.ref), O.lst (gs.map W.ref ++ ks.map W.ref)])) (X := X) (h := h) (gi := S'.length + (T.length + (T2.length + 1 + 1) + 1 + 1)) (ids := gs ++ ks) (Q := Q) (x3 := none) (x4 := none) (x5 := none) (x6 := none) (x7 := none) (x8 := none) (x9 := none) (x10 := none) (x11 := none) (x12 := none) (x13 := none) (x14 := none) (x15 := none) ok cl (fun lab => ?_) hall q
        · rw [List.map_append] at z
          exact z
        · rw [List.map_append]
          have e : S' ++ X :: dkF h.names lab :: (T ++ O.lst (gs.map W.ref) :: (T2 ++ [O.lst (ks.map W.ref), O.lst (gs.map W.ref ++ ks.map W.ref)])) = (S' ++ X :: dkF h.names lab :: (T ++ O.lst (gs.map W.ref) :: (T2 ++ [O.lst (ks.map W.ref)]))) ++ [O.lst (gs.map W.ref ++ ks.map W.ref)] := by simp
          have e2 : S'.length + (T.length + (T2.length + 1 + 1) + 1 + 1) = (S' ++ X :: dkF h.names lab :: (T ++ O.lst (gs.map W.ref) :: (T2 ++ [O.lst (ks.map W.ref)]))).length := by simp
          rw [e, e2]
          exact get_app0
end K09

namespace K09
open PySem PySem.Spec PyProof.Rows L2 TL DL
local macro_rules | `(tactic| walk_at "dl") => `(tactic| try simp (config := { decide := false }) only [e_seq, e_asg, e_nm, e_op, e_un, e_cb, e_c, e_var, e_ifs, e_tru, e_B, e_drop, e_bm, e_bm0, e_ret, e_retN, e_next, e_break, e_cont, e_nil, e_cons, e_tup, e_lst, e_sl, e_onone, e_osome, e_gsub, e_call, e_callk, e_and, e_or, e_not, e_andv, e_orv, e_notv, e_notU, e_isI, e_isS, e_isT, e_isR, e_isN, e_if, e_par, e_for, e_comp, e_iseq, e_rng1, e_yes, e_gtp, e_gc, e_gn0,
  e_addI, e_addS, e_addT, e_addL, e_i20, e_i2, e_neg, e_cmpI, e_cmpS, e_eqI, e_eqS, e_eqB, e_ixT, e_ixLit, e_ixL, e_ixS, e_set, e_ixAT, e_ixALit, e_ixAL, e_ixAS, e_ixAD, e_setAL, e_setAD, e_dict0, e_inAL, e_inAT, e_inAD, e_inAS, e_listAT, e_listALit, e_listAL, e_listAD, e_max2, e_extend, e_isalpha, e_enum, keyW, sz0, sz1, sz2, sz3, sz4, sz5, sz6, O.dk.injEq, e_slT, e_slLit, e_slS, e_slL, e_lenAS, e_lenAT, e_lenALit, e_lenAL, e_lenAD, e_lenS, e_lenT, e_lenLit, e_lenL, e_i1, e_intI, e_intB, e_strI, e_strS, e_listT, e_listLit, e_listL, e_tupleT, e_tupleL, e_append, e_pop0, e_tyL, e_tyS, e_truL, e_truT, e_truB, e_truI, e_truS, e_truN, e_seqT, e_seqLit, e_seqL, e_in, e_inT, e_isi, kit_ll, kit_ss, tyW_L, tyW_S, tyW_T, tyW_I, tyW_B, cut_to1, cut_to2, cut_from1, wipeW_nil, wipeW_cons, Nat.reduceAdd, eq_self, List.map_cons, List.map_nil,
  atI_0, atI_1, atI_2, atI_3, atI_4, atI_5, atI_end, ixN_0, ixN_1, ixN_11, ixN_last, List.map_append, List.map_cons, List.map_nil, get_app, get_app0, set_app, set_app0, List.cons_append, List.nil_append, List.append_assoc, List.length_append, List.length_cons, List.length_nil, Nat.zero_add, List.length_map, List.length_set,
  List.getElem?_cons_zero, List.getElem?_cons_succ, List.set_cons_zero, List.set_cons_succ, Option.some.injEq, exists_eq_left', exists_eq_left, exists_and_left, W.int.injEq, W.bl.injEq, W.str.injEq, W.tup.injEq, W.ref.injEq, O.lst.injEq, List.cons.injEq, reduceCtorEq, false_and, exists_false, or_false, false_or, true_and, and_true, decide_eq_true_eq, Bool.false_xor, Bool.true_xor, Bool.not_eq_true', decide_eq_false_iff_not, List.isEmpty_cons, List.isEmpty_nil, Bool.not_true, Bool.not_false, if_true, if_false, not_true_eq_false, not_false_eq_true, ne_eq, Bool.false_eq_true, reduceIte])



/-! ### _law_row -/
def F_row : DSpec := fun ws S Q => ∃ st R tb j mk, ws = [.ref 1, tabE tb, .ref (j + 1 + 1)] ∧ S = B st R ∧ Good st ∧ R[j]? = some (stro mk) ∧ mk ≠ [] ∧ mk.length ≤ 100 ∧ 0 ≤ tb.2 ∧ tb.2 ≤ 20 ∧
  ∀ st' ms, Good st' → ms.length = tb.2.toNat → Q (Row.enc ⟨tb.1, ms⟩) (B st' R)
theorem vc_row : ∀ ws S Q, Closed S → F_row ws S Q → d_law_row F_pick (endsW S.length Q) (startW N_law_row.length ws) S := by
  rintro ws S Q cl ⟨st, R, tb, j, mk, rfl, rfl, g, hj, hmk, hml, h0, h1, q⟩
  show d_law_row F_pick _ [some (.ref 1), some (tabE tb), some (.ref (j + 1 + 1)), none] _
  unfold d_law_row tabE
  have hpos : 0 < mk.length := List.length_pos_iff.mpr hmk
  walk_at "dl"
  refine ⟨by omega, by omega, ?_⟩
  refine compW_inv (fun i acc S' => ∃ st ms, S' = B st R ∧ Good st ∧ acc = ms.map W.str ∧ ms.length = i) ⟨st, [], rfl, g, rfl, rfl⟩ ?_ ?_
  · rintro i x acc S' hx ⟨st2, ms, rfl, g2, rfl, hlen⟩ N hN
    obtain ⟨hi, rfl⟩ := rng_get hx
    refine ⟨trivial, ?_⟩
    walk_at "dl"
    rw [e_lenAL (i := j + 1 + 1) (ws := mk.map W.str) hj, List.length_map]
    refine pick_ok g2 (by omega) (by omega) fun st3 r g3 r0 r1 => ?_
    obtain ⟨x, hx, _, hx3⟩ := at_map (f := W.str) (xs := mk) r0 r1
    rw [e_ixAL (i := j + 1 + 1) (ws := mk.map W.str) hj hx3]
    refine ⟨lt_sz (by omega), hN _ _ ⟨st3, ms ++ [x], rfl, g3, ?_, by simp [hlen]⟩⟩
    rw [List.map_append]
    rfl
  · rintro acc S' ⟨st2, ms, rfl, g2, rfl, hlen⟩
    rw [rng_len] at hlen
    refine ⟨trivial, ?_⟩
    rw [e_tupleL (by exact get_app0)]
    walk_at "dl"
    exact endBT _ cl (by show (true && (W.pureL (ms.map W.str) && true)) = true; rw [pureL_strs]; rfl) (q st2 ms g2 hlen)
theorem row_ok {st : Dr} {R : Sto} {tb : Str × Int} {j : Nat} {mk : List Str} {Q : WK} (g : Good st) (hj : R[j]? = some (stro mk)) (hmk : mk ≠ []) (hml : mk.length ≤ 100) (h0 : 0 ≤ tb.2) (h1 : tb.2 ≤ 20)
    (k : ∀ st' ms, Good st' → ms.length = tb.2.toNat → Q (Row.enc ⟨tb.1, ms⟩) (B st' R)) : F_row [.ref 1, tabE tb, .ref (j + 1 + 1)] (B st R) Q :=
  ⟨st, R, tb, j, mk, rfl, rfl, g, hj, hmk, hml, h0, h1, k⟩
/-! ### _law_ties -/
structure OkTabs (tabs : List (Str × Int)) : Prop where
  ne : tabs ≠ []
  len : tabs.length ≤ 50
  w : ∀ tb ∈ tabs, 0 ≤ tb.2 ∧ tb.2 ≤ 20
def F_ties : DSpec := fun ws S Q => ∃ st R tabs most, ws = [.ref 1, .tup (tabs.map tabE), .int most] ∧ S = B st R ∧ Good st ∧ OkTabs tabs ∧ 0 ≤ most ∧ most ≤ 100 ∧
  ∀ st' w, Good st' → w.pure = true → Q w (B st' R)
theorem vc_ties : ∀ ws S Q, Closed S → F_ties ws S Q → d_law_ties F_pick (endsW S.length Q) (startW N_law_ties.length ws) S := by
  rintro ws S Q cl ⟨st, R, tabs, most, rfl, rfl, g, ok, h0, h1, q⟩
  show d_law_ties F_pick _ [some (.ref 1), some _, some _, none, none, none, none, none, none, none] _
  unfold d_law_ties
  have hpos : 0 < tabs.length := List.length_pos_iff.mpr ok.ne
  have hln := ok.len
  walk_at "dl"
  refine pick_ok (R := R ++ [O.lst []]) g (by omega) (by omega) fun st1 n g1 n0 n1 => ?_
  walk_at "dl"
  refine ⟨by omega, by omega, ?_⟩
  refine forW_inv (fun i env S' => ∃ st us G x4 x5 x6 x7 x8 x9, S' = B st (R ++ .lst us :: G) ∧ Good st ∧ W.pureL us = true ∧ us.length ≤ i ∧ env = [some (.ref 1), some (.tup (tabs.map tabE)), some (.int most), some (.ref (R.length + 1 + 1)), x4, x5, x6, x7, x8, x9]) ⟨st1, [], [], _, _, _, _, _, _, rfl, g1, rfl, Nat.le_refl _, rfl⟩ ?_ ?_
  · rintro i x env S' hx ⟨st2, us, G, x4, x5, x6, x7, x8, x9, rfl, g2, hp, hl, rfl⟩ N hN
    obtain ⟨hi, rfl⟩ := rng_get hx
    refine ⟨trivial, ?_⟩
    walk_at "dl"
    refine pick_ok g2 (by omega) (by omega) fun st3 r g3 r0 r1 => ?_
    obtain ⟨tb, htb, _, htb3⟩ := at_map (f := tabE) (xs := tabs) r0 r1
    rw [e_ixAT htb3]
    obtain ⟨w0, w1⟩ := ok.w tb htb
    rw [show tabE tb = .tup [.str tb.1, .int tb.2] from rfl]
    generalize tabs.map tabE = TT at hN
    walk_at "dl"
    split
    · refine pick_ok g3 (by omega) (by omega) fun st4 p g4 p0 p1 => ?_
      refine ⟨by omega, by omega, ?_⟩
      refine compW_inv (fun k acc S2 => ∃ st ns, S2 = B st (R ++ .lst us :: G) ∧ Good st ∧ acc = (ns : List Int).map W.int ∧ ns.length ≤ k) ⟨st4, [], rfl, g4, rfl, Nat.le_refl _⟩ ?_ ?_
      · rintro k x acc S2 hx ⟨st5, ns, rfl, g5, rfl, hlen⟩ N2 hN2
        obtain ⟨hk, rfl⟩ := rng_get hx
        refine ⟨trivial, ?_⟩
        have keep : ∀ st, Good st → N2 (ns.map W.int) (B st (R ++ .lst us :: G)) := fun st gg => hN2 _ _ ⟨st, ns, rfl, gg, rfl, by omega⟩
        walk_at "dl"
        split
        · refine pick_ok g5 (by omega) (by omega) fun st6 r2 g6 _ _ => ?_
          walk_at "dl"
          split
          · refine ⟨lt_sz (by omega), hN2 _ _ ⟨st6, ns ++ [(k : Int)], rfl, g6, ?_, by simp; omega⟩⟩
            rw [List.map_append]
            rfl
          · exact keep st6 g6
        · exact keep st5 g5
      · rintro acc S2 ⟨st5, ns, rfl, g5, rfl, hlen⟩
        refine ⟨trivial, ?_⟩
        have tail : ∀ w : DL.W, w.pure = true → us.length < sizeLine ∧ N [some (W.ref 1), some (W.tup TT), some (W.int most), some (W.ref (List.length R + 1 + 1)), some (W.int ↑i), some (W.str tb.fst),
              some (W.int tb.snd), some (W.int p), some (W.ref (R.length + (G.length + 1) + 1 + 1)), x9] (B st5 (R ++ .lst (us ++ [W.tup [W.str tb.fst, w, W.int p]]) :: (G ++ [.lst (ns.map W.int)]))) := by
          intro w hw
          refine ⟨lt_sz (by omega), hN _ _ ⟨st5, us ++ [W.tup [W.str tb.fst, w, W.int p]], _, _, _, _, _, _, _, rfl, g5, ?_, by simp; omega, rfl⟩⟩
          rw [pureL_all, List.all_append, ← pureL_all, hp]
          show (true && ((true && (w.pure && (true && true))) && true)) = true
          rw [hw]
          rfl
        walk_at "dl"
        split
        · exact tail _ (pureL_ints _)
        · exact ⟨by omega, tail _ rfl⟩
    · exact hN _ _ ⟨st3, us, G, _, _, _, _, _, _, rfl, g3, hp, by omega, rfl⟩
  · rintro env S' ⟨st2, us, G, x4, x5, x6, x7, x8, x9, rfl, g2, hp, hl, rfl⟩
    refine ⟨trivial, ?_⟩
    walk_at "dl"
    exact endBT _ cl hp (q st2 _ g2 hp)
theorem ties_ok {st : Dr} {R : Sto} {tabs : List (Str × Int)} {most : Int} {Q : WK} (g : Good st) (ok : OkTabs tabs) (h0 : 0 ≤ most) (h1 : most ≤ 100)
    (k : ∀ st' w, Good st' → w.pure = true → Q w (B st' R)) : F_ties [.ref 1, .tup (tabs.map tabE), .int most] (B st R) Q :=
  ⟨st, R, tabs, most, rfl, rfl, g, ok, h0, h1, k⟩

end K09

namespace K09
open PySem PySem.Spec PyProof.Rows L2 TL DL
local macro_rules | `(tactic| walk_at "dl") => `(tactic| try simp (config := { decide := false }) only [e_seq, e_asg, e_nm, e_op, e_un, e_cb, e_c, e_var, e_ifs, e_tru, e_B, e_drop, e_bm, e_bm0, e_ret, e_retN, e_next, e_break, e_cont, e_nil, e_cons, e_tup, e_lst, e_sl, e_onone, e_osome, e_gsub, e_call, e_callk, e_and, e_or, e_not, e_andv, e_orv, e_notv, e_notU, e_isI, e_isS, e_isT, e_isR, e_isN, e_if, e_par, e_for, e_comp, e_iseq, e_rng1, e_yes, e_gtp, e_gc, e_gn0,
  e_addI, e_addS, e_addT, e_addL, e_i20, e_i2, e_neg, e_cmpI, e_cmpS, e_eqI, e_eqS, e_eqB, e_ixT, e_ixLit, e_ixL, e_ixS, e_set, e_ixAT, e_ixALit, e_ixAL, e_ixAS, e_ixAD, e_setAL, e_setAD, e_dict0, e_inAL, e_inAT, e_inAD, e_inAS, e_listAT, e_listALit, e_listAL, e_listAD, e_max2, e_extend, e_isalpha, e_enum, keyW, sz0, sz1, sz2, sz3, sz4, sz5, sz6, O.dk.injEq, e_slT, e_slLit, e_slS, e_slL, e_lenAS, e_lenAT, e_lenALit, e_lenAL, e_lenAD, e_lenS, e_lenT, e_lenLit, e_lenL, e_i1, e_intI, e_intB, e_strI, e_strS, e_listT, e_listLit, e_listL, e_tupleT, e_tupleL, e_append, e_pop0, e_tyL, e_tyS, e_truL, e_truT, e_truB, e_truI, e_truS, e_truN, e_seqT, e_seqLit, e_seqL, e_in, e_inT, e_isi, kit_ll, kit_ss, tyW_L, tyW_S, tyW_T, tyW_I, tyW_B, cut_to1, cut_to2, cut_from1, wipeW_nil, wipeW_cons, Nat.reduceAdd, eq_self, List.map_cons, List.map_nil,
  atI_0, atI_1, atI_2, atI_3, atI_4, atI_5, atI_end, ixN_0, ixN_1, ixN_11, ixN_last, List.map_append, List.map_cons, List.map_nil, get_app, get_app0, set_app, set_app0, List.cons_append, List.nil_append, List.append_assoc, List.length_append, List.length_cons, List.length_nil, Nat.zero_add, List.length_map, List.length_set,
  List.getElem?_cons_zero, List.getElem?_cons_succ, List.set_cons_zero, List.set_cons_succ, Option.some.injEq, exists_eq_left', exists_eq_left, exists_and_left, W.int.injEq, W.bl.injEq, W.str.injEq, W.tup.injEq, W.ref.injEq, O.lst.injEq, List.cons.injEq, reduceCtorEq, false_and, exists_false, or_false, false_or, true_and, and_true, decide_eq_true_eq, Bool.false_xor, Bool.true_xor, Bool.not_eq_true', decide_eq_false_iff_not, List.isEmpty_cons, List.isEmpty_nil, Bool.not_true, Bool.not_false, if_true, if_false, not_true_eq_false, not_false_eq_true, ne_eq, Bool.false_eq_true, reduceIte])



theorem B_app {st : Dr} {R L : Sto} : B st R ++ L = B st (R ++ L) := rfl
theorem B_len {st : Dr} {R : Sto} : (B st R).length = R.length + 1 + 1 := rfl
/-! ### _law_doors -/
def F_doors : DSpec := fun ws S Q => ∃ st R tabs, ∃ kept : List Kept, ∃ names : List Str, ∃ j1 j2 j3, ws = [.ref 1, .ref (j1 + 1 + 1), .ref (j2 + 1 + 1), .ref (j3 + 1 + 1)] ∧ S = B st R ∧ Good st ∧ OkTabs tabs ∧ R[j1]? = some (.lst (tabs.map tabE)) ∧ R[j2]? = some (.lst (kept.map Kept.enc)) ∧ kept.length ≤ 100 ∧ R[j3]? = some (stro names) ∧ names.length ≤ 100 ∧
  ∀ st' w, Good st' → w.pure = true → Q w (B st' R)
theorem vc_doors : ∀ ws S Q, Closed S → F_doors ws S Q → d_law_doors F_pick (endsW S.length Q) (startW N_law_doors.length ws) S := by
  rintro ws S Q cl ⟨st, R, tabs, kept, names, j1, j2, j3, rfl, rfl, g, ok, hj1, hj2, hkl, hj3, hnl, q⟩
  show d_law_doors F_pick _ [some (.ref 1), some _, some _, some _, none, none, none, none, none, none, none, none, none] _
  unfold d_law_doors
  have hpos : 0 < tabs.length := List.length_pos_iff.mpr ok.ne
  have hln := ok.len
  have hR : ∀ (st : Dr) {j : Nat} {o : O} (T : Sto), R[j]? = some o → (B st (R ++ T))[j + 1 + 1]? = some o := fun st j o T h => get_pre (S := R) h
  walk_at "dl"
  rw [e_seqL (hR st _ hj2)]
  refine compW_map (r := fun k : Kept => .str k.t) (hR st _ hj2) (le_sz (by omega)) ?_ ?_
  · intro k hk N acc ha hN
    unfold Kept.enc
    walk_at "dl"
    exact ⟨ha, hN⟩
  generalize hpe : (kept.map fun k : Kept => DL.W.str k.t) = P0
  have hP0 : ∃ pe : List Str, P0 = pe.map W.str ∧ pe.length ≤ 100 := ⟨kept.map Kept.t, by rw [← hpe, List.map_map]; rfl, by rw [List.length_map]; exact hkl⟩
  obtain ⟨pe0, rfl, hpl⟩ := hP0
  rw [B_app, B_len]
  rw [List.append_assoc, List.length_append]
  refine sorted_strs_ok (hR st _ hj3) ?_
  have hsl : (names.mergeSort strLe).length ≤ 100 := by rw [List.length_mergeSort]; exact hnl
  generalize names.mergeSort strLe = sn at hsl
  rw [B_app, B_len]
  have eR : R ++ ([O.lst []] ++ [O.lst (pe0.map W.str)]) ++ [stro sn] = R ++ O.lst [] :: stro pe0 :: stro sn :: [] := by simp
  have eI : (R ++ ([O.lst []] ++ [O.lst (pe0.map W.str)])).length = R.length + 1 + 1 := by simp
  rw [eR, eI]
  have h0 : ∀ (st : Dr) (us : List DL.W) (pe : List Str) (T : Sto), (B st (R ++ O.lst us :: stro pe :: stro sn :: T))[R.length + 1 + 1]? = some (O.lst us) := fun st us pe T => by
    show (R ++ _)[R.length]? = _
    exact get_app0
  have h1 : ∀ (st : Dr) (us : List DL.W) (pe : List Str) (T : Sto), (B st (R ++ O.lst us :: stro pe :: stro sn :: T))[R.length + 1 + 1 + 1]? = some (stro pe) := fun st us pe T => by
    show (R ++ _)[R.length + 1]? = _
    exact get_app
  have h2 : ∀ (st : Dr) (us : List DL.W) (pe : List Str) (T : Sto), (B st (R ++ O.lst us :: stro pe :: stro sn :: T))[R.length + 1 + 1 + 1 + 1]? = some (stro sn) := fun st us pe T => by
    show (R ++ _)[R.length + 2]? = _
    exact get_app
  have s0 : ∀ (st : Dr) (us us2 : List DL.W) (pe : List Str) (T : Sto), (B st (R ++ O.lst us :: stro pe :: stro sn :: T)).set (R.length + 1 + 1) (.lst us2) = B st (R ++ O.lst us2 :: stro pe :: stro sn :: T) := fun st us us2 pe T => by
    show B st ((R ++ _).set R.length _) = _
    rw [set_app0]
    rfl
  have s1 : ∀ (st : Dr) (us : List DL.W) (pe pe2 : List Str) (T : Sto), (B st (R ++ O.lst us :: stro pe :: stro sn :: T)).set (R.length + 1 + 1 + 1) (stro pe2) = B st (R ++ O.lst us :: stro pe2 :: stro sn :: T) := fun st us pe pe2 T => by
    show B st ((R ++ _).set (R.length + 1) _) = _
    rw [set_app]
    rfl
  rw [e_seqL (h2 st [] pe0 [])]
  refine forW_inv (fun i env S' => ∃ st us, ∃ pe : List Str, ∃ G x6 x7 x8 x9 x10 x11 x12, S' = B st (R ++ .lst us :: stro pe :: stro sn :: G) ∧ Good st ∧ W.pureL us = true ∧ us.length ≤ i ∧ pe.length ≤ 100 + i ∧ env = [some (W.ref 1), some (W.ref (j1 + 1 + 1)), some (W.ref (j2 + 1 + 1)), some (W.ref (j3 + 1 + 1)), some (W.ref (List.length R + 1 + 1)), some (W.ref (R.length + 1 + 1 + 1)), x6, x7, x8, x9, x10, x11, x12]) ⟨st, [], pe0, [], _, _, _, _, _, _, _, rfl, g, rfl, Nat.le_refl _, hpl, rfl⟩ ?_ ?_
  · rintro i x env S' hx ⟨st2, us, pe, G, x6, x7, x8, x9, x10, x11, x12, rfl, g2, hp, hl, hpl2, rfl⟩ N hN
    obtain ⟨name, hnm, rfl, _, hi⟩ := map_get hx
    refine ⟨h2 _ _ _ _, ?_⟩
    walk_at "dl"
    rw [e_lenAL (hR _ _ hj1), List.length_map]
    refine pick_ok g2 (by omega) (by omega) fun st3 r g3 r0 r1 => ?_
    obtain ⟨tb, htb, _, htb3⟩ := at_map (f := tabE) (xs := tabs) r0 r1
    rw [e_ixAL (hR _ _ hj1) htb3]
    obtain ⟨w0, w1⟩ := ok.w tb htb
    rw [show tabE tb = .tup [.str tb.1, .int tb.2] from rfl]
    walk_at "dl"
    refine ⟨by omega, by omega, ?_⟩
    refine compW_inv (fun k acc S2 => ∃ st ns, S2 = B st (R ++ .lst us :: stro pe :: stro sn :: G) ∧ Good st ∧ acc = (ns : List Int).map W.int ∧ ns.length ≤ k) ⟨st3, [], rfl, g3, rfl, Nat.le_refl _⟩ ?_ ?_
    · rintro k x acc S2 hx ⟨st5, ns, rfl, g5, rfl, hlen⟩ N2 hN2
      obtain ⟨hk, rfl⟩ := rng_get hx
      refine ⟨trivial, ?_⟩
      walk_at "dl"
      refine pick_ok g5 (by omega) (by omega) fun st6 r2 g6 _ _ => ?_
      walk_at "dl"
      split
      · refine ⟨lt_sz (by omega), hN2 _ _ ⟨st6, ns ++ [(k : Int)], rfl, g6, ?_, by simp; omega⟩⟩
        rw [List.map_append]
        rfl
      · exact hN2 _ _ ⟨st6, ns, rfl, g6, rfl, by omega⟩
    · rintro acc S2 ⟨st5, ns, rfl, g5, rfl, hlen⟩
      refine ⟨trivial, ?_⟩
      rw [e_tupleL (by exact get_app0), B_app]
      rw [List.append_assoc, List.cons_append, List.cons_append, List.cons_append]
      generalize G ++ [O.lst (ns.map W.int)] = G2
      have fin : ∀ (st : Dr) (pe : List Str) (kd : Str), Good st → pe.length ≤ 100 + (i + 1) → us.length < sizeLine ∧
          N [some (W.ref 1), some (W.ref (j1 + 1 + 1)), some (W.ref (j2 + 1 + 1)), some (W.ref (j3 + 1 + 1)), some (W.ref (List.length R + 1 + 1)), some (W.ref (List.length R + 1 + 1 + 1)), some (W.str name), some (.str tb.1), some (.int tb.2), some (.tup (ns.map W.int)), some (.str kd), x11, x12] (B st (R ++ O.lst (us ++ [.tup [.str name, .str tb.1, .tup (ns.map W.int), .str kd]]) :: stro pe :: stro sn :: G2)) := by
        intro st pe kd gg hpe
        refine ⟨lt_sz (by omega), hN _ _ ⟨st, _, pe, G2, _, _, _, _, _, _, _, rfl, gg, ?_, by simp; omega, hpe, rfl⟩⟩
        rw [pureL_all, List.all_append, ← pureL_all, hp]
        show (true && ((true && (true && (W.pureL (ns.map W.int) && (true && true)))) && true)) = true
        rw [pureL_ints]
        rfl
      have eP : O.lst (pe.map W.str ++ [.str tb.1]) = stro (pe ++ [tb.1]) := by
        rw [stro, List.map_append]
        rfl
      rw [e_inAL (h1 st5 us pe G2), inW_strs]
      refine ⟨rfl, flW_strs pe, ?_⟩
      have ne : ¬ Str.ofString "all" = Str.ofString "one" := by decide
      refine ⟨_, rfl, ?_⟩
      split
      · refine pick_ok g5 (by omega) (by omega) fun st6 r2 g6 _ _ => ?_
        walk_at "dl"
        split
        · rw [eP]
          refine ⟨lt_sz (by omega), fin st6 _ _ g6 (by simp; omega)⟩
        · exact fin st6 pe _ g6 (by omega)
      · walk_at "dl"
        exact fin st5 pe _ g5 (by omega)
  · rintro env S' ⟨st2, us, pe, G, x6, x7, x8, x9, x10, x11, x12, rfl, g2, hp, hl, hpl2, rfl⟩
    refine ⟨h2 _ _ _ _, ?_⟩
    walk_at "dl"
    exact endBT _ cl hp (q st2 _ g2 hp)
theorem doors_ok {st : Dr} {R : Sto} {tabs : List (Str × Int)} {kept : List Kept} {names : List Str} {j1 j2 j3 : Nat} {Q : WK} (g : Good st) (ok : OkTabs tabs) (hj1 : R[j1]? = some (.lst (tabs.map tabE))) (hj2 : R[j2]? = some (.lst (kept.map Kept.enc))) (hkl : kept.length ≤ 100) (hj3 : R[j3]? = some (stro names)) (hnl : names.length ≤ 100)
    (k : ∀ st' w, Good st' → w.pure = true → Q w (B st' R)) : F_doors [.ref 1, .ref (j1 + 1 + 1), .ref (j2 + 1 + 1), .ref (j3 + 1 + 1)] (B st R) Q :=
  ⟨st, R, tabs, kept, names, j1, j2, j3, rfl, rfl, g, ok, hj1, hj2, hkl, hj3, hnl, k⟩

end K09

namespace K09
open PySem PySem.Spec PyProof.Rows L2 TL DL
local macro_rules | `(tactic| walk_at "dl") => `(tactic| try simp (config := { decide := false }) only [e_seq, e_asg, e_nm, e_op, e_un, e_cb, e_c, e_var, e_ifs, e_tru, e_B, e_drop, e_bm, e_bm0, e_ret, e_retN, e_next, e_break, e_cont, e_nil, e_cons, e_tup, e_lst, e_sl, e_onone, e_osome, e_gsub, e_call, e_callk, e_and, e_or, e_not, e_andv, e_orv, e_notv, e_notU, e_isI, e_isS, e_isT, e_isR, e_isN, e_if, e_par, e_for, e_comp, e_iseq, e_rng1, e_yes, e_gtp, e_gc, e_gn0,
  e_addI, e_addS, e_addT, e_addL, e_i20, e_i2, e_neg, e_cmpI, e_cmpS, e_eqI, e_eqS, e_eqB, e_ixT, e_ixLit, e_ixL, e_ixS, e_set, e_ixAT, e_ixALit, e_ixAL, e_ixAS, e_ixAD, e_setAL, e_setAD, e_dict0, e_inAL, e_inAT, e_inAD, e_inAS, e_listAT, e_listALit, e_listAL, e_listAD, e_max2, e_extend, e_isalpha, e_enum, keyW, sz0, sz1, sz2, sz3, sz4, sz5, sz6, O.dk.injEq, e_slT, e_slLit, e_slS, e_slL, e_lenAS, e_lenAT, e_lenALit, e_lenAL, e_lenAD, e_lenS, e_lenT, e_lenLit, e_lenL, e_i1, e_intI, e_intB, e_strI, e_strS, e_listT, e_listLit, e_listL, e_tupleT, e_tupleL, e_append, e_pop0, e_tyL, e_tyS, e_truL, e_truT, e_truB, e_truI, e_truS, e_truN, e_seqT, e_seqLit, e_seqL, e_in, e_inT, e_isi, kit_ll, kit_ss, tyW_L, tyW_S, tyW_T, tyW_I, tyW_B, cut_to1, cut_to2, cut_from1, wipeW_nil, wipeW_cons, Nat.reduceAdd, eq_self, List.map_cons, List.map_nil,
  atI_0, atI_1, atI_2, atI_3, atI_4, atI_5, atI_end, ixN_0, ixN_1, ixN_11, ixN_last, List.map_append, List.map_cons, List.map_nil, get_app, get_app0, set_app, set_app0, List.cons_append, List.nil_append, List.append_assoc, List.length_append, List.length_cons, List.length_nil, Nat.zero_add, List.length_map, List.length_set,
  List.getElem?_cons_zero, List.getElem?_cons_succ, List.set_cons_zero, List.set_cons_succ, Option.some.injEq, exists_eq_left', exists_eq_left, exists_and_left, W.int.injEq, W.bl.injEq, W.str.injEq, W.tup.injEq, W.ref.injEq, O.lst.injEq, List.cons.injEq, reduceCtorEq, false_and, exists_false, or_false, false_or, true_and, and_true, decide_eq_true_eq, Bool.false_xor, Bool.true_xor, Bool.not_eq_true', decide_eq_false_iff_not, List.isEmpty_cons, List.isEmpty_nil, Bool.not_true, Bool.not_false, if_true, if_false, not_true_eq_false, not_false_eq_true, ne_eq, Bool.false_eq_true, reduceIte])



theorem names_ok {st : Dr} {R S : Sto} {many : Int} {p : Nat} {Q : WK} (hS : S = B st (R ++ [.dk []])) (hp : p = R.length + 1 + 1) (g : Good st) (h0 : 0 ≤ many) (h1 : many ≤ 40)
    (k : ∀ st' names kv, Good st' → names.Nodup → names.length = many.toNat → (∀ x ∈ names, OkN x) → Q (.ref (R.length + 1 + 1 + 1)) (B st' (R ++ [kv, stro names]))) : F_names [.ref 1, .int many, .ref p] S Q := by
  subst hS hp
  refine ⟨st, R ++ [.dk []], R.length, many, rfl, rfl, get_app0, g, h0, h1, fun st' names kv g2 h2 h3 h4 => ?_⟩
  have z := k st' names kv g2 h2 h3 h4
  rw [set_app0, List.append_assoc, List.length_append]
  exact z
theorem slice_ok {S : Sto} {Q : WK} {i : Nat} {mk : List Str} {n : Int} (h : S[i]? = some (stro mk)) (h0 : 0 ≤ n) (q : Q (.ref S.length) (S ++ [stro (mk.take n.toNat)])) : vSl (.ref i) none (some n) S Q := by
  rw [e_slL h]
  have e : cutW (mk.map W.str) none (some n) = (mk.take n.toNat).map W.str := by
    have e2 : n = ((n.toNat : Nat) : Int) := by omega
    rw [e2, cut_to, List.map_take]
    congr 1
  rw [e]
  exact q
theorem rowS_ok {st : Dr} {R S : Sto} {tb : Str × Int} {p : Nat} {mk : List Str} {Q : WK} (hS : S = B st (R ++ [stro mk])) (hp : p = R.length + 1 + 1) (g : Good st) (hmk : mk ≠ []) (hml : mk.length ≤ 100) (h0 : 0 ≤ tb.2) (h1 : tb.2 ≤ 20)
    (k : ∀ st' ms, Good st' → ms.length = tb.2.toNat → Q (Row.enc ⟨tb.1, ms⟩) (B st' (R ++ [stro mk]))) : F_row [.ref 1, tabE tb, .ref p] S Q := by
  subst hS hp
  exact row_ok g get_app0 hmk hml h0 h1 k
theorem at4 {r : Int} (h0 : 0 ≤ r) (h1 : r < 4) : ∃ m : Int, 1 ≤ m ∧ m ≤ 3 ∧ atI [DL.W.int 1, .int 1, .int 2, .int 3] r = some (.int m) := by
  have : r = 0 ∨ r = 1 ∨ r = 2 ∨ r = 3 := by omega
  rcases this with rfl | rfl | rfl | rfl
  · exact ⟨1, by decide, by decide, rfl⟩
  · exact ⟨1, by decide, by decide, rfl⟩
  · exact ⟨2, by decide, by decide, rfl⟩
  · exact ⟨3, by decide, by decide, rfl⟩
/-! ### _law_rules -/
structure RuleIn (ns : List Str) (r : Rule) : Prop where
  at_ : ∃ top : Nat, ns[top]? = some r.head.t ∧ ∀ row ∈ r.body, row.t ∈ ns.take top
  len : r.body.length ≤ 3
  wb : ∀ row ∈ r.body, row.ms.length ≤ 20
  wh : r.head.ms.length ≤ 20
def F_rules : DSpec := fun ws S Q => ∃ st R tabs most, ws = [.ref 1, .tup (tabs.map tabE), .int most] ∧ S = B st R ∧ Good st ∧ OkTabs tabs ∧ 0 ≤ most ∧ most ≤ 90 ∧
  ∀ st', ∀ rules : List Rule, Good st' → rules.length ≤ 90 → (∀ r ∈ rules, RuleIn (tabs.map (·.1)) r) → Q (.tup (rules.map Rule.enc)) (B st' R)
def rulesBody : DS :=
(dSeq (dAsg (dOp vAdd (dC (.int 1)) (dCall F_pick (aCons (dVar 0) (aCons (dOp vSub (dCB vLenA (aCons (dVar 1) aNil)) (dC (.int 1))) aNil)))) (gNm 5))
(dSeq (dAsg (dCall F_names (aCons (dVar 0) (aCons (dC (.int 5)) (aCons dDict0 aNil)))) (gNm 6))
(dSeq (dAsg (dOp vIxA (dLst (aCons (dC (.int 1)) (aCons (dC (.int 1)) (aCons (dC (.int 2)) (aCons (dC (.int 3)) aNil))))) (dCall F_pick (aCons (dVar 0) (aCons (dC (.int 4)) aNil)))) (gNm 7))
(dSeq (dAsg (dComp (iRng1 (aCons (dVar 7) aNil)) (gNm 9) dYes (dCall F_row (aCons (dVar 0) (aCons (dOp vIxA (dVar 1) (dCall F_pick (aCons (dVar 0) (aCons (dVar 5) aNil)))) (aCons (dSl vSl (dVar 6) oNone (oSome (dOp vAdd (dC (.int 2)) (dCall F_pick (aCons (dVar 0) (aCons (dC (.int 2)) aNil)))))) aNil)))) [9]) (gNm 8))
(dDrop (dBM "list" vAppend (dVar 3) (aCons (dTup (aCons (dCB vTuple (aCons (dVar 8) aNil)) (aCons (dCall F_row (aCons (dVar 0) (aCons (dOp vIxA (dVar 1) (dVar 5)) (aCons (dSl vSl (dVar 6) oNone (oSome (dOp vAdd (dC (.int 2)) (dCall F_pick (aCons (dVar 0) (aCons (dC (.int 4)) aNil)))))) aNil)))) aNil))) aNil)))))))
theorem row_pure (r : Row) : (Row.enc r).pure = true := by
  show (true && (W.pureL (r.ms.map W.str) && true)) = true
  rw [pureL_strs]
  rfl
theorem rule_pure (r : Rule) : (Rule.enc r).pure = true := by
  show (W.pureL (r.body.map Row.enc) && ((Row.enc r.head).pure && true)) = true
  rw [pureL_of fun w hw => by obtain ⟨r, _, rfl⟩ := List.mem_map.mp hw; exact row_pure r, row_pure]
  rfl
theorem rules_loop {st : Dr} {R : Sto} {tabs : List (Str × Int)} {most n : Int} {Q : WK} (cl : Closed (B st R)) (g : Good st) (ok : OkTabs tabs) (hn : n ≤ 90) (h2 : 0 < n → 1 < tabs.length)
    (q : ∀ st', ∀ rules : List Rule, Good st' → rules.length ≤ 90 → (∀ r ∈ rules, RuleIn (tabs.map (·.1)) r) → Q (.tup (rules.map Rule.enc)) (B st' R)) :
    forW (gNm 4) rulesBody (fun _ => True) (rngW 0 n.toNat) { nx := dRet (dCB vTuple (aCons (dVar 3) aNil)) (endsW (R.length + 1 + 1) Q), rt := Ends0 (R.length + 1 + 1) Q, bk := fun _ _ => False, ct := fun _ _ => False }
      [some (W.ref 1), some (W.tup (List.map tabE tabs)), some (W.int most), some (W.ref (List.length R + 1 + 1)), none, none, none, none, none, none] (B st (R ++ [.lst []])) := by
  have hln := ok.len
  have h0 : ∀ (st : Dr) (us : List DL.W) (T : Sto), (B st (R ++ O.lst us :: T))[R.length + 1 + 1]? = some (O.lst us) := fun st us T => by
    show (R ++ _)[R.length]? = _
    exact get_app0
  have s0 : ∀ (st : Dr) (us us2 : List DL.W) (T : Sto), (B st (R ++ O.lst us :: T)).set (R.length + 1 + 1) (.lst us2) = B st (R ++ O.lst us2 :: T) := fun st us us2 T => by
    show B st ((R ++ _).set R.length _) = _
    rw [set_app0]
    rfl
  refine forW_inv (fun i env S' => ∃ st, ∃ rules : List Rule, ∃ G x4 x5 x6 x7 x8 x9, S' = B st (R ++ .lst (rules.map Rule.enc) :: G) ∧ Good st ∧ rules.length = i ∧ (∀ r ∈ rules, RuleIn (tabs.map (·.1)) r) ∧ env = [some (W.ref 1), some (W.tup (List.map tabE tabs)), some (W.int most), some (W.ref (List.length R + 1 + 1)), x4, x5, x6, x7, x8, x9])
    ⟨st, [], [], _, _, _, _, _, _, rfl, g, rfl, (by intro r h; cases h), rfl⟩ ?_ ?_
  · rintro i x env S' hx ⟨st2, rules, G, x4, x5, x6, x7, x8, x9, rfl, g2, hl, hr, rfl⟩ N hN
    obtain ⟨hi, rfl⟩ := rng_get hx
    have h2' := h2 (by omega)
    refine ⟨trivial, ?_⟩
    unfold rulesBody
    walk_at "dl"
    refine pick_ok (R := R ++ .lst (rules.map Rule.enc) :: G) g2 (by omega) (by omega) fun st3 top0 g3 t0 t1 => ?_
    walk_at "dl"
    refine names_ok (R := R ++ .lst (rules.map Rule.enc) :: G) (by simp) (by simp) g3 (by decide) (by decide) fun st4 mk kv g4 _ hmk _ => ?_
    walk_at "dl"
    generalize hG : G ++ [kv, stro mk, O.lst [DL.W.int 1, DL.W.int 1, DL.W.int 2, DL.W.int 3]] = G1
    have eI : R.length + (G.length + 2 + 1) + 1 + 1 = R.length + 1 + 1 + (G.length + 3) := by omega
    have eM : R.length + (G.length + 1) + 1 + 1 + 1 = R.length + 1 + 1 + (G.length + 2) := by omega
    rw [eI, eM]
    have hI : ∀ (st : Dr) (us : List DL.W) (T : Sto), (B st (R ++ O.lst us :: (G1 ++ T)))[R.length + 1 + 1 + (G.length + 3)]? = some (.lst [DL.W.int 1, DL.W.int 1, DL.W.int 2, DL.W.int 3]) := fun st us T => by
      have e : R.length + 1 + 1 + (G.length + 3) = (R.length + (G.length + 3)) + 1 + 1 := by omega
      rw [e]
      show (R ++ _)[R.length + (G.length + 3)]? = _
      rw [get_app, ← hG, List.append_assoc]
      show (G ++ _)[G.length + 2]? = _
      rw [get_app]
      rfl
    have hM : ∀ (st : Dr) (us : List DL.W) (T : Sto), (B st (R ++ O.lst us :: (G1 ++ T)))[R.length + 1 + 1 + (G.length + 2)]? = some (stro mk) := fun st us T => by
      have e : R.length + 1 + 1 + (G.length + 2) = (R.length + (G.length + 2)) + 1 + 1 := by omega
      rw [e]
      show (R ++ _)[R.length + (G.length + 2)]? = _
      rw [get_app, ← hG, List.append_assoc]
      show (G ++ _)[G.length + 1]? = _
      rw [get_app]
      rfl
    have hmk5 : mk.length = 5 := hmk
    have htk : ∀ r : Int, 0 ≤ r → mk.take (2 + r).toNat ≠ [] := fun r hr e => by
      have := congrArg List.length e
      rw [List.length_take, hmk5] at this
      simp at this
      omega
    have htl : ∀ n : Nat, (mk.take n).length ≤ 100 := fun n => by rw [List.length_take]; omega
    refine pick_ok (R := R ++ .lst (rules.map Rule.enc) :: G1) g4 (by decide) (by decide) fun st5 r4 g5 r40 r41 => ?_
    obtain ⟨m, m0, m1, hm⟩ := at4 r40 r41
    have hI0 := hI st5 (rules.map Rule.enc) []
    rw [List.append_nil] at hI0
    rw [e_ixAL hI0 hm]
    walk_at "dl"
    refine ⟨by omega, by omega, ?_⟩
    refine compW_inv (fun k acc S2 => ∃ st, ∃ rows : List Row, ∃ G2, S2 = B st (R ++ .lst (rules.map Rule.enc) :: (G1 ++ G2)) ∧ Good st ∧ acc = rows.map Row.enc ∧ rows.length = k ∧ ∀ row ∈ rows, row.t ∈ (tabs.map (·.1)).take (1 + top0).toNat ∧ row.ms.length ≤ 20) ⟨st5, [], [], ?_, g5, rfl, rfl, (by intro r h; cases h)⟩ ?_ ?_
    · rw [List.append_nil]
    · rintro k x acc S2 hx ⟨st6, rows, G2, rfl, g6, rfl, hlen, hrows⟩ N2 hN2
      obtain ⟨hk, rfl⟩ := rng_get hx
      refine ⟨trivial, ?_⟩
      walk_at "dl"
      refine pick_ok (R := R ++ .lst (rules.map Rule.enc) :: (G1 ++ G2)) g6 (by omega) (by omega) fun st7 r g7 r0 r1 => ?_
      obtain ⟨tb, htb, htb2, htb3⟩ := at_map (f := tabE) (xs := tabs) r0 (by omega)
      obtain ⟨w0, w1⟩ := ok.w tb htb
      rw [e_ixAT htb3]
      refine pick_ok g7 (by decide) (by decide) fun st8 r2 g8 r20 r21 => ?_
      walk_at "dl"
      refine slice_ok (hM st8 _ G2) (by omega) ?_
      refine rowS_ok (R := R ++ .lst (rules.map Rule.enc) :: (G1 ++ G2)) (mk := mk.take (2 + r2).toNat) rfl rfl g8 (htk r2 r20) (htl _) w0 w1 fun st9 ms g9 hms => ?_
      refine ⟨lt_sz (by omega), hN2 _ _ ⟨st9, rows ++ [⟨tb.1, ms⟩], G2 ++ [stro (mk.take (2 + r2).toNat)], ?_, g9, ?_, by simp [hlen], fun row hrow => ?_⟩⟩
      · simp
      · rw [List.map_append]
        rfl
      · rcases List.mem_append.mp hrow with h | h
        · exact hrows row h
        · rw [List.mem_singleton.mp h]
          refine ⟨?_, by show ms.length ≤ 20; omega⟩
          refine List.mem_of_getElem? (i := r.toNat) ?_
          rw [List.getElem?_take_of_lt (by omega), List.getElem?_map, htb2]
          rfl
    · rintro acc S2 ⟨st6, rows, G2, rfl, g6, rfl, hlen, hrows⟩
      rw [rng_len] at hlen
      refine ⟨trivial, ?_⟩
      walk_at "dl"
      obtain ⟨tb, htb, htb2, htb3⟩ := at_map (f := tabE) (xs := tabs) (r := 1 + top0) (by omega) (by omega)
      obtain ⟨w0, w1⟩ := ok.w tb htb
      rw [e_ixAT htb3]
      refine pick_ok (R := R ++ .lst (rules.map Rule.enc) :: (G1 ++ (G2 ++ [O.lst (rows.map Row.enc)]))) g6 (by decide) (by decide) fun st7 r2 g7 r20 r21 => ?_
      walk_at "dl"
      refine slice_ok (hM st7 _ _) (by omega) ?_
      refine rowS_ok (R := R ++ .lst (rules.map Rule.enc) :: (G1 ++ (G2 ++ [O.lst (rows.map Row.enc)]))) (mk := mk.take (2 + r2).toNat) rfl rfl g7 (htk r2 r20) (htl _) w0 w1 fun st9 ms g9 hms => ?_
      walk_at "dl"
      refine ⟨lt_sz (by omega), hN _ _ ⟨st9, rules ++ [⟨rows, ⟨tb.1, ms⟩⟩], G1 ++ (G2 ++ [O.lst (rows.map Row.enc), stro (mk.take (2 + r2).toNat)]), _, _, _, _, _, _, ?_, g9, by simp [hl], fun r hr2 => ?_, rfl⟩⟩
      · rw [List.map_append]
        rfl
      · rcases List.mem_append.mp hr2 with h | h
        · exact hr r h
        · rw [List.mem_singleton.mp h]
          refine ⟨⟨(1 + top0).toNat, ?_, fun row hrow => (hrows row hrow).1⟩, by show rows.length ≤ 3; omega, fun row hrow => (hrows row hrow).2, by show ms.length ≤ 20; omega⟩
          rw [List.getElem?_map, htb2]
          rfl
  · rintro env S' ⟨st2, rules, G, x4, x5, x6, x7, x8, x9, rfl, g2, hl, hr, rfl⟩
    refine ⟨trivial, ?_⟩
    rw [rng_len] at hl
    walk_at "dl"
    exact endBT _ cl (pureL_of fun w hw => by obtain ⟨r, _, rfl⟩ := List.mem_map.mp hw; exact rule_pure r) (q st2 rules g2 (by omega) hr)
theorem vc_rules : ∀ ws S Q, Closed S → F_rules ws S Q → d_law_rules F_pick F_names F_row (endsW S.length Q) (startW N_law_rules.length ws) S := by
  rintro ws S Q cl ⟨st, R, tabs, most, rfl, rfl, g, ok, h0, h1, q⟩
  show d_law_rules F_pick F_names F_row _ [some (.ref 1), some _, some _, none, none, none, none, none, none, none] _
  unfold d_law_rules
  walk_at "dl"
  split
  · refine pick_ok (R := R ++ [O.lst []]) g (by omega) (by omega) fun st1 n g1 n0 n1 => ?_
    exact ⟨n, rfl, by omega, by omega, rules_loop (closed_B cl) g1 ok (by omega) (fun _ => by omega) q⟩
  · exact ⟨by decide, by decide, rules_loop (closed_B cl) g ok (by decide) (fun h => absurd h (by decide)) q⟩
theorem rules_ok {st : Dr} {R : Sto} {tabs : List (Str × Int)} {most : Int} {Q : WK} (g : Good st) (ok : OkTabs tabs) (h0 : 0 ≤ most) (h1 : most ≤ 90)
    (k : ∀ st', ∀ rules : List Rule, Good st' → rules.length ≤ 90 → (∀ r ∈ rules, RuleIn (tabs.map (·.1)) r) → Q (.tup (rules.map Rule.enc)) (B st' R)) : F_rules [.ref 1, .tup (tabs.map tabE), .int most] (B st R) Q :=
  ⟨st, R, tabs, most, rfl, rfl, g, ok, h0, h1, k⟩

end K09

namespace K09
open PySem PySem.Spec PyProof.Rows L2 TL DL
local macro_rules | `(tactic| walk_at "dl") => `(tactic| try simp (config := { decide := false }) only [e_seq, e_asg, e_nm, e_op, e_un, e_cb, e_c, e_var, e_ifs, e_tru, e_B, e_drop, e_bm, e_bm0, e_ret, e_retN, e_next, e_break, e_cont, e_nil, e_cons, e_tup, e_lst, e_sl, e_onone, e_osome, e_gsub, e_call, e_callk, e_and, e_or, e_not, e_andv, e_orv, e_notv, e_notU, e_isI, e_isS, e_isT, e_isR, e_isN, e_if, e_par, e_for, e_comp, e_iseq, e_rng1, e_yes, e_gtp, e_gc, e_gn0,
  e_addI, e_addS, e_addT, e_addL, e_i20, e_i2, e_neg, e_cmpI, e_cmpS, e_eqI, e_eqS, e_eqB, e_ixT, e_ixLit, e_ixL, e_ixS, e_set, e_ixAT, e_ixALit, e_ixAL, e_ixAS, e_ixAD, e_setAL, e_setAD, e_dict0, e_inAL, e_inAT, e_inAD, e_inAS, e_listAT, e_listALit, e_listAL, e_listAD, e_max2, e_extend, e_isalpha, e_enum, keyW, sz0, sz1, sz2, sz3, sz4, sz5, sz6, O.dk.injEq, e_slT, e_slLit, e_slS, e_slL, e_lenAS, e_lenAT, e_lenALit, e_lenAL, e_lenAD, e_lenS, e_lenT, e_lenLit, e_lenL, e_i1, e_intI, e_intB, e_strI, e_strS, e_listT, e_listLit, e_listL, e_tupleT, e_tupleL, e_append, e_pop0, e_tyL, e_tyS, e_truL, e_truT, e_truB, e_truI, e_truS, e_truN, e_seqT, e_seqLit, e_seqL, e_in, e_inT, e_isi, kit_ll, kit_ss, tyW_L, tyW_S, tyW_T, tyW_I, tyW_B, cut_to1, cut_to2, cut_from1, wipeW_nil, wipeW_cons, Nat.reduceAdd, eq_self, List.map_cons, List.map_nil,
  atI_0, atI_1, atI_2, atI_3, atI_4, atI_5, atI_end, ixN_0, ixN_1, ixN_11, ixN_last, List.map_append, List.map_cons, List.map_nil, get_app, get_app0, set_app, set_app0, List.cons_append, List.nil_append, List.append_assoc, List.length_append, List.length_cons, List.length_nil, Nat.zero_add, List.length_map, List.length_set,
  List.getElem?_cons_zero, List.getElem?_cons_succ, List.set_cons_zero, List.set_cons_succ, Option.some.injEq, exists_eq_left', exists_eq_left, exists_and_left, W.int.injEq, W.bl.injEq, W.str.injEq, W.tup.injEq, W.ref.injEq, O.lst.injEq, List.cons.injEq, reduceCtorEq, false_and, exists_false, or_false, false_or, true_and, and_true, decide_eq_true_eq, Bool.false_xor, Bool.true_xor, Bool.not_eq_true', decide_eq_false_iff_not, List.isEmpty_cons, List.isEmpty_nil, Bool.not_true, Bool.not_false, if_true, if_false, not_true_eq_false, not_false_eq_true, ne_eq, Bool.false_eq_true, reduceIte])



theorem perm_map_ex {α β : Type} {f : α → β} : ∀ {l1 l2 : List β}, l1.Perm l2 → ∀ xs : List α, l2 = xs.map f → ∃ ys : List α, ys.Perm xs ∧ l1 = ys.map f := by
  intro l1 l2 h
  induction h with
  | nil => intro xs e; exact ⟨[], by rw [List.map_eq_nil_iff.mp e.symm], rfl⟩
  | cons x h ih =>
    intro xs e
    cases xs with
    | nil => cases e
    | cons y ys =>
      obtain ⟨e1, e2⟩ := List.cons.inj e
      obtain ⟨zs, h1, h2⟩ := ih ys e2
      exact ⟨y :: zs, h1.cons y, by rw [h2, e1]; rfl⟩
  | swap x y l =>
    intro xs e
    match xs, e with
    | a :: b :: r, e =>
      obtain ⟨e1, e2⟩ := List.cons.inj e
      obtain ⟨e2, e3⟩ := List.cons.inj e2
      exact ⟨b :: a :: r, List.Perm.swap a b r, by rw [e1, e2, e3]; rfl⟩
  | trans h1 h2 ih1 ih2 =>
    intro xs e
    obtain ⟨ys, p1, e1⟩ := ih2 xs e
    obtain ⟨zs, p2, e2⟩ := ih1 ys e1
    exact ⟨zs, p2.trans p1, e2⟩
theorem sorted_ints_ok {S : Sto} {Q : WK} {i : Nat} {xs : List Int} (h : S[i]? = some (.lst (xs.map W.int))) (q : ∀ ys : List Int, Q (.ref S.length) (S ++ [.lst (ys.map W.int)])) : vSorted [.ref i] S Q := by
  refine ⟨xs.map W.int, h, pureL_ints xs, ?_, ?_, ?_, ?_⟩
  · intro x hx y hy
    rw [List.map_map] at hx hy
    obtain ⟨a, _, rfl⟩ := List.mem_map.mp hx
    obtain ⟨b, _, rfl⟩ := List.mem_map.mp hy
    rfl
  · refine .inr fun x hx => ?_
    rw [List.map_map] at hx
    obtain ⟨a, _, rfl⟩ := List.mem_map.mp hx
    show PyData.int a ≠ .none ∧ ∀ ys, PyData.int a ≠ .tuple ys
    exact ⟨by simp, by simp⟩
  · intro w hw
    obtain ⟨a, _, rfl⟩ := List.mem_map.mp hw
    show (PyData.int a).depth ≤ 60
    simp only [PyData.depth]
    decide
  · obtain ⟨ys, _, e⟩ := perm_map_ex (List.mergeSort_perm (xs.map W.int) leW) xs rfl
    rw [e]
    exact q ys
theorem dat_row (r : Row) : datW (Row.enc r) = .tuple [.str r.t, .tuple (r.ms.map PyData.str)] := by
  show PyData.tuple [PyData.str r.t, PyData.tuple (datWs (r.ms.map W.str))] = _
  rw [dat_strs]
theorem dat_rows : ∀ rs : List Row, datWs (rs.map Row.enc) = rs.map fun r => PyData.tuple [.str r.t, .tuple (r.ms.map PyData.str)]
  | [] => rfl
  | r :: rs => by
    show datW (Row.enc r) :: datWs (rs.map Row.enc) = _
    rw [dat_row, dat_rows rs]
    rfl
theorem dat_kept (k : Kept) : datW (Kept.enc k) = .tuple [.str k.t, .tuple (k.hd.map PyData.str), .tuple (k.body.map fun r => PyData.tuple [.str r.t, .tuple (r.ms.map PyData.str)])] := by
  show PyData.tuple [PyData.str k.t, PyData.tuple (datWs (k.hd.map W.str)), PyData.tuple (datWs (k.body.map Row.enc))] = _
  rw [dat_strs, dat_rows]
theorem alike_s : ∀ a b : List Str, PySem.W.alikeAll (a.map PyData.str) (b.map PyData.str) = true := fun a b => by
  have z := alike_strs2 a b
  rw [dat_strs, dat_strs] at z
  exact z
theorem alike_r : ∀ a b : List Row, PySem.W.alikeAll (a.map fun r => PyData.tuple [.str r.t, .tuple (r.ms.map PyData.str)]) (b.map fun r => PyData.tuple [.str r.t, .tuple (r.ms.map PyData.str)]) = true
  | [], _ => by simp [PySem.W.alikeAll]
  | _ :: _, [] => by simp [PySem.W.alikeAll]
  | x :: a, y :: b => by
    have ih := alike_r a b
    simp only [List.map_cons, PySem.W.alikeAll, PySem.W.alike, ih, alike_s]
    rfl
theorem dep_r : ∀ rs : List Row, PyData.depthAll (rs.map fun r => PyData.tuple [.str r.t, .tuple (r.ms.map PyData.str)]) ≤ 2
  | [] => by simp [PyData.depthAll]
  | r :: rs => by
    have h := dep_r rs
    simp only [List.map_cons, PyData.depthAll, PyData.depth, dep_strs r.ms]
    omega
theorem kept_pure (r : Kept) : (Kept.enc r).pure = true := by
  show (true && (W.pureL (r.hd.map W.str) && (W.pureL (r.body.map Row.enc) && true))) = true
  rw [pureL_strs, pureL_of fun w hw => by obtain ⟨r, _, rfl⟩ := List.mem_map.mp hw; exact row_pure r]
  rfl
theorem sorted_kept_ok {S : Sto} {Q : WK} {i : Nat} {xs : List Kept} (h : S[i]? = some (.lst (xs.map Kept.enc))) (q : ∀ ys : List Kept, ys.Perm xs → Q (.ref S.length) (S ++ [.lst (ys.map Kept.enc)])) : vSorted [.ref i] S Q := by
  refine ⟨xs.map Kept.enc, h, pureL_of fun w hw => by obtain ⟨r, _, rfl⟩ := List.mem_map.mp hw; exact kept_pure r, ?_, ?_, ?_, ?_⟩
  · intro x hx y hy
    rw [List.map_map] at hx hy
    obtain ⟨a, _, rfl⟩ := List.mem_map.mp hx
    obtain ⟨b, _, rfl⟩ := List.mem_map.mp hy
    show PySem.W.alike (datW (Kept.enc a)) (datW (Kept.enc b)) = true
    rw [dat_kept, dat_kept]
    simp only [PySem.W.alike, PySem.W.alikeAll, alike_s, alike_r]
    rfl
  · refine .inl fun x hx => ?_
    rw [List.map_map] at hx
    obtain ⟨a, ha, rfl⟩ := List.mem_map.mp hx
    exact ⟨_, _, dat_kept a⟩
  · intro w hw
    obtain ⟨a, _, rfl⟩ := List.mem_map.mp hw
    rw [dat_kept]
    have h := dep_r a.body
    simp only [PyData.depth, PyData.depthAll, dep_strs]
    omega
  · obtain ⟨ys, p, e⟩ := perm_map_ex (List.mergeSort_perm (xs.map Kept.enc) leW) xs rfl
    rw [e]
    exact q ys p

end K09

namespace K09
open PySem PySem.Spec PyProof.Rows L2 TL DL
local macro_rules | `(tactic| walk_at "dl") => `(tactic| try simp (config := { decide := false }) only [e_seq, e_asg, e_nm, e_op, e_un, e_cb, e_c, e_var, e_ifs, e_tru, e_B, e_drop, e_bm, e_bm0, e_ret, e_retN, e_next, e_break, e_cont, e_nil, e_cons, e_tup, e_lst, e_sl, e_onone, e_osome, e_gsub, e_call, e_callk, e_and, e_or, e_not, e_andv, e_orv, e_notv, e_notU, e_isI, e_isS, e_isT, e_isR, e_isN, e_if, e_par, e_for, e_comp, e_iseq, e_rng1, e_yes, e_gtp, e_gc, e_gn0,
  e_addI, e_addS, e_addT, e_addL, e_i20, e_i2, e_neg, e_cmpI, e_cmpS, e_eqI, e_eqS, e_eqB, e_ixT, e_ixLit, e_ixL, e_ixS, e_set, e_ixAT, e_ixALit, e_ixAL, e_ixAS, e_ixAD, e_setAL, e_setAD, e_dict0, e_inAL, e_inAT, e_inAD, e_inAS, e_listAT, e_listALit, e_listAL, e_listAD, e_max2, e_extend, e_isalpha, e_enum, keyW, sz0, sz1, sz2, sz3, sz4, sz5, sz6, O.dk.injEq, e_slT, e_slLit, e_slS, e_slL, e_lenAS, e_lenAT, e_lenALit, e_lenAL, e_lenAD, e_lenS, e_lenT, e_lenLit, e_lenL, e_i1, e_intI, e_intB, e_strI, e_strS, e_listT, e_listLit, e_listL, e_tupleT, e_tupleL, e_append, e_pop0, e_tyL, e_tyS, e_truL, e_truT, e_truB, e_truI, e_truS, e_truN, e_seqT, e_seqLit, e_seqL, e_in, e_inT, e_isi, kit_ll, kit_ss, tyW_L, tyW_S, tyW_T, tyW_I, tyW_B, cut_to1, cut_to2, cut_from1, wipeW_nil, wipeW_cons, Nat.reduceAdd, eq_self, List.map_cons, List.map_nil,
  atI_0, atI_1, atI_2, atI_3, atI_4, atI_5, atI_end, ixN_0, ixN_1, ixN_11, ixN_last, List.map_append, List.map_cons, List.map_nil, get_app, get_app0, set_app, set_app0, List.cons_append, List.nil_append, List.append_assoc, List.length_append, List.length_cons, List.length_nil, Nat.zero_add, List.length_map, List.length_set,
  List.getElem?_cons_zero, List.getElem?_cons_succ, List.set_cons_zero, List.set_cons_succ, Option.some.injEq, exists_eq_left', exists_eq_left, exists_and_left, W.int.injEq, W.bl.injEq, W.str.injEq, W.tup.injEq, W.ref.injEq, O.lst.injEq, List.cons.injEq, reduceCtorEq, false_and, exists_false, or_false, false_or, true_and, and_true, decide_eq_true_eq, Bool.false_xor, Bool.true_xor, Bool.not_eq_true', decide_eq_false_iff_not, List.isEmpty_cons, List.isEmpty_nil, Bool.not_true, Bool.not_false, if_true, if_false, not_true_eq_false, not_false_eq_true, ne_eq, Bool.false_eq_true, reduceIte])



/-! ### _law_house -/
def HS (R : Sto) (kv : O) (names : List Str) (tabs : List (Str × Int)) (kept : List Kept) (G : Sto) : Sto := R ++ kv :: stro names :: .lst (tabs.map tabE) :: .lst (kept.map Kept.enc) :: G
section
variable {st : Dr} {R : Sto} {kv : O} {names : List Str} {tabs : List (Str × Int)} {kept : List Kept} {G : Sto}
theorem HS_app {L : Sto} : B st (HS R kv names tabs kept G) ++ L = B st (HS R kv names tabs kept (G ++ L)) := by
  unfold HS
  rw [B_app, List.append_assoc]
  rfl
theorem HS_names : (HS R kv names tabs kept G)[R.length + 1]? = some (stro names) := get_app
theorem HS_tabs : (HS R kv names tabs kept G)[R.length + 2]? = some (.lst (tabs.map tabE)) := get_app
theorem HS_kept : (HS R kv names tabs kept G)[R.length + 3]? = some (.lst (kept.map Kept.enc)) := get_app
theorem HS_setT {tabs2 : List (Str × Int)} : (HS R kv names tabs kept G).set (R.length + 2) (.lst (tabs2.map tabE)) = HS R kv names tabs2 kept G := by
  unfold HS
  rw [set_app]
  rfl
theorem HS_setK {kept2 : List Kept} : (HS R kv names tabs kept G).set (R.length + 3) (.lst (kept2.map Kept.enc)) = HS R kv names tabs kept2 G := by
  unfold HS
  rw [set_app]
  rfl
theorem HS_len : (HS R kv names tabs kept G).length = R.length + 4 + G.length := by
  unfold HS
  simp
  omega
end
theorem HSa {R : Sto} {kv : O} {names : List Str} {tabs : List (Str × Int)} {kept : List Kept} {G L : Sto} : HS R kv names tabs kept G ++ L = HS R kv names tabs kept (G ++ L) := by
  unfold HS
  rw [List.append_assoc]
  rfl
theorem HS_at {R : Sto} {kv : O} {names : List Str} {tabs : List (Str × Int)} {kept : List Kept} {G L : Sto} {k : Nat} : (HS R kv names tabs kept (G ++ L))[R.length + 4 + G.length + k]? = L[k]? := by
  unfold HS
  have e : R.length + 4 + G.length + k = R.length + (G.length + k + 4) := by omega
  rw [e, get_app]
  show (G ++ L)[G.length + k]? = _
  exact get_app
theorem marksL_len : ∀ rows : List Row, (∀ r ∈ rows, r.ms.length ≤ 20) → (marksL rows).length ≤ 20 * rows.length
  | [], _ => Nat.zero_le _
  | r :: rows, h => by
    have ih := marksL_len rows fun x hx => h x (List.mem_cons_of_mem _ hx)
    have h1 := h r (List.mem_cons_self ..)
    show (r.ms ++ marksL rows).length ≤ _
    rw [List.length_append, List.length_cons]
    omega
structure KeptIn (plain : List Str) (k : Kept) : Prop where
  ins : ∀ row ∈ k.body, row.t ∈ plain
  len : k.body.length ≤ 3
  hd : k.hd.length ≤ 4
def widK (k : Kept) : Str × Int := (k.t, (k.hd.length : Int))
def houseBody : DS :=
(dSeq (dAsg (dCall F_names (aCons (dVar 0) (aCons (dC (.int 4)) (aCons dDict0 aNil)))) (gNm 12))
(dSeq (dAsg (dCB vTuple (aCons (dComp (iRng1 (aCons (dOp vAdd (dC (.int 1)) (dCall F_pick (aCons (dVar 0) (aCons (dC (.int 3)) aNil)))) aNil)) (gNm 17) dYes (dCall F_row (aCons (dVar 0) (aCons (dOp vIxA (dVar 9) (dCall F_pick (aCons (dVar 0) (aCons (dVar 6) aNil)))) (aCons (dVar 12) aNil)))) [17]) aNil)) (gNm 13))
(dSeq (dAsg (dSl vSl (dCall F_shuf (aCons (dVar 0) (aCons (dCall F_lmarks (aCons (dVar 13) aNil)) aNil))) oNone (oSome (dOp vAdd (dC (.int 1)) (dCall F_pick (aCons (dVar 0) (aCons (dC (.int 4)) aNil)))))) (gNm 14))
(dSeq (dDrop (dBM "list" vAppend (dVar 10) (aCons (dTup (aCons (dOp vIxA (dVar 7) (dOp vAdd (dVar 6) (dVar 11))) (aCons (dCB vTuple (aCons (dVar 14) aNil)) (aCons (dVar 13) aNil)))) aNil)))
(dDrop (dBM "list" vAppend (dVar 8) (aCons (dTup (aCons (dOp vIxA (dVar 7) (dOp vAdd (dVar 6) (dVar 11))) (aCons (dCB vLenA (aCons (dVar 14) aNil)) aNil))) aNil)))))))
theorem house_loop {D : DEnds} {st : Dr} {R : Sto} {kv : O} {names : List Str} {tabs : List (Str × Int)} {m0 n : Int} (g : Good st) (m1 : 0 ≤ m0) (m2 : m0 < 5) (hlen : names.length = (1 + m0 + 3).toNat) (ht : tabs.map (·.1) = names.take (1 + m0).toNat) (hw : ∀ tb ∈ tabs, 0 ≤ tb.2 ∧ tb.2 ≤ 4) (hn : n ≤ 3)
    (fin : ∀ st, ∀ kept : List Kept, ∀ G x11 x12 x13 x14 x17, Good st → kept.length ≤ 3 → kept.map Kept.t = (names.drop (1 + m0).toNat).take kept.length → (∀ k ∈ kept, KeptIn (tabs.map (·.1)) k) →
      D.nx [some (W.ref 1), some (W.int 5), some (W.int 8), some (W.int 2), some (W.int 4), some (W.int 3), some (W.int (1 + m0)), some (W.ref (List.length R + 1 + 1 + 1)), some (W.ref (List.length R + 2 + 1 + 1)), some (W.tup (List.map tabE tabs)), some (W.ref (List.length R + 3 + 1 + 1)), x11, x12, x13, x14, none, none, x17] (B st (HS R kv names (tabs ++ kept.map widK) kept G))) :
    forW (gNm 11) houseBody (fun _ => True) (rngW 0 n.toNat) D [some (W.ref 1), some (W.int 5), some (W.int 8), some (W.int 2), some (W.int 4), some (W.int 3), some (W.int (1 + m0)), some (W.ref (List.length R + 1 + 1 + 1)), some (W.ref (List.length R + 2 + 1 + 1)), some (W.tup (List.map tabE tabs)), some (W.ref (List.length R + 3 + 1 + 1)), none, none, none, none, none, none, none] (B st (HS R kv names tabs [] [])) := by
  have htl : tabs.length = (1 + m0).toNat := by
    have := congrArg List.length ht
    rw [List.length_map, List.length_take] at this
    omega
  refine forW_inv (fun i env S' => ∃ st, ∃ kept : List Kept, ∃ G x11 x12 x13 x14 x17, S' = B st (HS R kv names (tabs ++ kept.map widK) kept G) ∧ Good st ∧ kept.length = i ∧ kept.map Kept.t = (names.drop (1 + m0).toNat).take i ∧ (∀ k ∈ kept, KeptIn (tabs.map (·.1)) k) ∧
      env = [some (W.ref 1), some (W.int 5), some (W.int 8), some (W.int 2), some (W.int 4), some (W.int 3), some (W.int (1 + m0)), some (W.ref (List.length R + 1 + 1 + 1)), some (W.ref (List.length R + 2 + 1 + 1)), some (W.tup (List.map tabE tabs)), some (W.ref (List.length R + 3 + 1 + 1)), x11, x12, x13, x14, none, none, x17]) ⟨st, [], [], _, _, _, _, _, by simp, g, rfl, rfl, (by intro r h; cases h), rfl⟩ ?_ ?_
  · rintro i x env S' hx ⟨st2, kept, G, x11, x12, x13, x14, x17, rfl, g2, hl, hkt, hki, rfl⟩ N hN
    obtain ⟨hi, rfl⟩ := rng_get hx
    refine ⟨trivial, ?_⟩
    unfold houseBody
    generalize hTb : tabs ++ kept.map widK = tabs2 at hN
    walk_at "dl"
    refine names_ok (R := HS R kv names tabs2 kept G) rfl rfl g2 (by decide) (by decide) fun st3 mk kv2 g3 _ hmk _ => ?_
    rw [HS_len, HSa]
    have hM : ∀ (tabs : List (Str × Int)) (kept : List Kept) (T : Sto), (HS R kv names tabs kept (G ++ ([kv2, stro mk] ++ T)))[R.length + 4 + G.length + 1]? = some (stro mk) := fun tabs kept T => by
      rw [HS_at]
      rfl
    walk_at "dl"
    generalize hG1 : G ++ [kv2, stro mk] = G1
    have hM2 : ∀ (tabs : List (Str × Int)) (kept : List Kept), (HS R kv names tabs kept G1)[R.length + 4 + G.length + 1]? = some (stro mk) := fun tabs kept => by
      have z := hM tabs kept []
      rw [List.append_nil, hG1] at z
      exact z
    refine pick_ok g3 (by decide) (by decide) fun st4 b g4 b0 b1 => ?_
    walk_at "dl"
    refine ⟨by omega, by omega, ?_⟩
    refine compW_inv (fun k acc S2 => ∃ st, ∃ rows : List Row, S2 = B st (HS R kv names tabs2 kept G1) ∧ Good st ∧ acc = rows.map Row.enc ∧ rows.length = k ∧ ∀ row ∈ rows, row.t ∈ tabs.map (·.1) ∧ row.ms.length ≤ 20) ⟨st4, [], rfl, g4, rfl, rfl, (by intro r h; cases h)⟩ ?_ ?_
    · rintro k x acc S2 hx ⟨st6, rows, rfl, g6, rfl, hlen2, hrows⟩ N2 hN2
      obtain ⟨hk, rfl⟩ := rng_get hx
      refine ⟨trivial, ?_⟩
      walk_at "dl"
      refine pick_ok g6 (by omega) (by omega) fun st7 r g7 r0 r1 => ?_
      obtain ⟨tb, htb, htb2, htb3⟩ := at_map (f := tabE) (xs := tabs) r0 (by omega)
      obtain ⟨w0, w1⟩ := hw tb htb
      rw [e_ixAT htb3]
      refine row_ok (mk := mk) g7 (hM2 _ _) (fun e => by rw [e] at hmk; cases hmk) (by have : mk.length = 4 := hmk; omega) w0 (by omega) fun st8 ms g8 hms => ?_
      refine ⟨lt_sz (by omega), hN2 _ _ ⟨st8, rows ++ [⟨tb.1, ms⟩], rfl, g8, ?_, by simp [hlen2], fun row hrow => ?_⟩⟩
      · rw [List.map_append]
        rfl
      · rcases List.mem_append.mp hrow with h | h
        · exact hrows row h
        · rw [List.mem_singleton.mp h]
          exact ⟨List.mem_map.mpr ⟨tb, htb, rfl⟩, by show ms.length ≤ 20; omega⟩
    · rintro acc S2 ⟨st6, rows, rfl, g6, rfl, hlen2, hrows⟩
      rw [rng_len] at hlen2
      refine ⟨trivial, ?_⟩
      rw [e_tupleL (by exact get_app0), B_app, HSa]
      have hml := marksL_len rows fun r hr => (hrows r hr).2
      have hml2 : (marks rows).length ≤ 1000 := marks_len rows ⟨by omega⟩
      refine ⟨rows, rfl, ⟨by omega⟩, ?_⟩
      rw [B_app, HSa, B_len]
      generalize hG2 : G1 ++ [O.lst (rows.map Row.enc)] = G2
      rw [← HSa (L := [stro (marks rows)])]
      refine shuf_ok (us := (marks rows).map W.str) g6 (.inr ⟨_, rfl, get_app0⟩) (pureL_strs _) (by rw [List.length_map]; exact hml2) fun st7 vs g7 hvs => ?_
      obtain ⟨hd0, _, rfl⟩ := perm_map_ex hvs _ rfl
      refine pick_ok g7 (by decide) (by decide) fun st8 c g8 c0 c1 => ?_
      walk_at "dl"
      have ecut : cutW (hd0.map W.str) none (some (1 + c)) = (hd0.take (1 + c).toNat).map W.str := by
        have e2 : 1 + c = (((1 + c).toNat : Nat) : Int) := by omega
        rw [e2, cut_to, List.map_take]
        congr 1
      have hhd : (hd0.take (1 + c).toNat).length ≤ 4 := by rw [List.length_take]; omega
      rw [ecut, HSa, HS_len]
      generalize hd0.take (1 + c).toNat = hd at hhd
      generalize hG3 : G2 ++ [stro (marks rows), O.lst (hd0.map W.str), O.lst (hd.map W.str)] = G3
      have hH : ∀ (st : Dr) (tabs : List (Str × Int)) (kept : List Kept), (B st (HS R kv names tabs kept G3))[R.length + 4 + G2.length + 2 + 1 + 1]? = some (stro hd) := fun st tabs kept => by
        show (HS R kv names tabs kept G3)[R.length + 4 + G2.length + 2]? = _
        rw [← hG3, HS_at]
        rfl
      have hNm : ∀ (st : Dr) (tabs : List (Str × Int)) (kept : List Kept), (B st (HS R kv names tabs kept G3))[R.length + 1 + 1 + 1]? = some (stro names) := fun _ _ _ => HS_names
      have hTt : ∀ (st : Dr) (tabs : List (Str × Int)) (kept : List Kept), (B st (HS R kv names tabs kept G3))[R.length + 2 + 1 + 1]? = some (.lst (tabs.map tabE)) := fun _ _ _ => HS_tabs
      have hKk : ∀ (st : Dr) (tabs : List (Str × Int)) (kept : List Kept), (B st (HS R kv names tabs kept G3))[R.length + 3 + 1 + 1]? = some (.lst (kept.map Kept.enc)) := fun _ _ _ => HS_kept
      have hil : (1 + m0).toNat + i < names.length := by omega
      have ein : 1 + m0 + (i : Int) = (((1 + m0).toNat + i : Nat) : Int) := by omega
      have hnm : atI (names.map W.str) (1 + m0 + (i : Int)) = some (W.str names[(1 + m0).toNat + i]) := by
        rw [ein]
        exact atI_nat (by rw [List.getElem?_map, List.getElem?_eq_getElem hil]; rfl)
      have hnd : (names.drop (1 + m0).toNat)[i]? = some names[(1 + m0).toNat + i] := by
        rw [List.getElem?_drop, List.getElem?_eq_getElem hil]
      generalize names[(1 + m0).toNat + i] = nm at hnm hnd
      rw [e_tyL (hKk st8 tabs2 kept), e_ixAL (hNm st8 tabs2 kept) hnm, e_tupleL (hH st8 tabs2 kept), e_append (hKk st8 tabs2 kept)]
      have eK : O.lst (kept.map Kept.enc ++ [W.tup [.str nm, .tup (hd.map W.str), .tup (rows.map Row.enc)]]) = .lst ((kept ++ [(⟨nm, hd, rows⟩ : Kept)]).map Kept.enc) := by
        rw [List.map_append]
        rfl
      have sK : ∀ (st : Dr) (kept2 : List Kept), (B st (HS R kv names tabs2 kept G3)).set (R.length + 3 + 1 + 1) (.lst (kept2.map Kept.enc)) = B st (HS R kv names tabs2 kept2 G3) := fun st kept2 => by
        show B st ((HS R kv names tabs2 kept G3).set (R.length + 3) _) = _
        rw [HS_setK]
      have sT : ∀ (st : Dr) (kept2 : List Kept) (tabs3 : List (Str × Int)), (B st (HS R kv names tabs2 kept2 G3)).set (R.length + 2 + 1 + 1) (.lst (tabs3.map tabE)) = B st (HS R kv names tabs3 kept2 G3) := fun st kept2 tabs3 => by
        show B st ((HS R kv names tabs2 kept2 G3).set (R.length + 2) _) = _
        rw [HS_setT]
      rw [eK, sK, e_tyL (hTt st8 tabs2 _), e_ixAL (hNm st8 tabs2 _) hnm, e_lenAL (hH st8 tabs2 _), e_append (hTt st8 tabs2 _)]
      have eT : O.lst (tabs2.map tabE ++ [W.tup [.str nm, .int ((hd.map W.str).length : Int)]]) = .lst ((tabs ++ (kept ++ [(⟨nm, hd, rows⟩ : Kept)]).map widK).map tabE) := by
        rw [← hTb, List.length_map]
        simp only [List.map_append, List.map_cons, List.map_nil, List.append_assoc]
        rfl
      rw [eT, sT]
      have htl2 : tabs2.length ≤ 8 := by
        rw [← hTb, List.length_append, List.length_map]
        omega
      refine ⟨trivial, lt_sz (by rw [List.length_map]; omega), trivial, lt_sz (by rw [List.length_map]; omega), hN _ _ ⟨st8, kept ++ [⟨nm, hd, rows⟩], G3, _, _, _, _, _, rfl, g8, by simp [hl], ?_, fun k hk => ?_, rfl⟩⟩
      · rw [List.map_append, hkt, take_snoc hnd]
        rfl
      · rcases List.mem_append.mp hk with h | h
        · exact hki k h
        · rw [List.mem_singleton.mp h]
          exact ⟨fun row hrow => (hrows row hrow).1, by show rows.length ≤ 3; omega, hhd⟩
  · rintro env S' ⟨st2, kept, G, x11, x12, x13, x14, x17, rfl, g2, hl, hkt, hki, rfl⟩
    rw [rng_len] at hl
    refine ⟨trivial, ?_⟩
    refine fin _ _ _ _ _ _ _ _ g2 (by omega) ?_ hki
    rw [hkt, rng_len, hl]
theorem house_okh {names : List Str} {a : Nat} {tabs : List (Str × Int)} {kept kept2 : List Kept} {known doors ties : DL.W} {rules : List Rule} (hnd : names.Nodup) (hok : ∀ x ∈ names, OkN x) (hal : a ≤ 20) (ht : tabs.map (·.1) = names.take a) (hkl : kept.length ≤ 3)
    (hkt : kept.map Kept.t = (names.drop a).take kept.length) (hki : ∀ k ∈ kept, KeptIn (tabs.map (·.1)) k) (hp : kept2.Perm kept) (hrl : rules.length ≤ 90) (hr : ∀ r ∈ rules, RuleIn (tabs.map (·.1)) r) :
    OkHouse ⟨tabs ++ kept.map widK, known, doors, rules, ties, kept2⟩ := by
  have hN : (House.mk (tabs ++ kept.map widK) known doors rules ties kept2).names = names.take (a + kept.length) := by
    show (tabs ++ kept.map widK).map (·.1) = _
    rw [List.map_append, ht, List.map_map]
    have e : (kept.map ((·.1) ∘ widK)) = kept.map Kept.t := rfl
    rw [e, hkt, List.take_add]
  have hN2 : (House.mk (tabs ++ kept.map widK) known doors rules ties kept2).names = tabs.map (·.1) ++ kept.map Kept.t := by
    show (tabs ++ kept.map widK).map (·.1) = _
    rw [List.map_append, List.map_map]
    rfl
  have hsub : ∀ x ∈ (House.mk (tabs ++ kept.map widK) known doors rules ties kept2).names, x ∈ names := fun x hx => by
    rw [hN] at hx
    exact List.mem_of_mem_take hx
  have hndN : (House.mk (tabs ++ kept.map widK) known doors rules ties kept2).names.Nodup := by
    rw [hN]
    exact hnd.sublist (List.take_sublist _ _)
  have htl : tabs.length ≤ 20 := by
    have := congrArg List.length ht
    rw [List.length_map, List.length_take] at this
    omega
  have hk2 : ∀ k ∈ kept2, k ∈ kept := fun k hk => hp.mem_iff.mp hk
  have hbody : ∀ r ∈ rules, (∀ row ∈ r.body, row.ms.length ≤ 20) := fun r h => (hr r h).wb
  refine ⟨⟨fun r h => ⟨⟨⟨?_⟩, ⟨?_⟩⟩, ?_⟩, fun r h => ?_, ?_, ?_⟩, hndN, ?_, fun r h i hi row hrow => ?_, fun r h => ?_, fun r h => ⟨?_, fun row hrow => ?_⟩, fun n hn => hok n (hsub n hn)⟩
  · have := marksL_len [r.head] (fun x hx => by rw [List.mem_singleton.mp hx]; exact (hr r h).wh)
    simp at this
    omega
  · have := marksL_len r.body (hbody r h)
    have := (hr r h).len
    omega
  · have := (hr r h).len
    omega
  · have := (hki r (hk2 r h)).len
    omega
  · show rules.length ≤ 100
    omega
  · show kept2.length ≤ 100
    rw [hp.length_eq]
    omega
  · show (tabs ++ kept.map widK).length ≤ 50
    rw [List.length_append, List.length_map]
    omega
  · obtain ⟨top, h1, h2⟩ := (hr r h).at_
    have htop := (List.getElem?_eq_some_iff.mp h1).1
    have h3 : (House.mk (tabs ++ kept.map widK) known doors rules ties kept2).names[top]? = some r.head.t := by
      rw [hN2, List.getElem?_append_left htop, h1]
    have e : i = top := by
      obtain ⟨a1, a2⟩ := List.getElem?_eq_some_iff.mp hi
      obtain ⟨b1, b2⟩ := List.getElem?_eq_some_iff.mp h3
      have z1 := List.Nodup.idxOf_getElem hndN i a1
      have z2 := List.Nodup.idxOf_getElem hndN top b1
      rw [a2] at z1
      rw [b2] at z2
      exact z1.symm.trans z2
    rw [e, hN2, List.take_append_of_le_length (Nat.le_of_lt htop)]
    exact h2 row hrow
  · obtain ⟨top, h1, h2⟩ := (hr r h).at_
    rw [hN2]
    exact List.mem_append_left _ (List.mem_of_getElem? h1)
  · rw [hN2]
    exact List.mem_append_right _ (List.mem_map.mpr ⟨r, hk2 r h, rfl⟩)
  · rw [hN2]
    exact List.mem_append_left _ ((hki r (hk2 r h)).ins row hrow)
def houseRest : DS :=
(dSeq (dAsg (dCall F_doors (aCons (dVar 0) (aCons (dVar 8) (aCons (dVar 10) (aCons (dCall F_names (aCons (dVar 0) (aCons (dCall F_pick (aCons (dVar 0) (aCons (dOp vAdd (dVar 4) (dC (.int 1))) aNil))) (aCons dDict0 aNil)))) aNil))))) (gNm 16))
(dRet (dTup (aCons (dCB vTuple (aCons (dVar 8) aNil)) (aCons (dCB vTuple (aCons (dVar 15) aNil)) (aCons (dVar 16) (aCons (dCall F_rules (aCons (dVar 0) (aCons (dVar 9) (aCons (dVar 2) aNil)))) (aCons (dCall F_ties (aCons (dVar 0) (aCons (dVar 9) (aCons (dVar 3) aNil)))) (aCons (dCB vTuple (aCons (dCB vSorted (aCons (dVar 10) aNil)) aNil)) aNil)))))))))
theorem house_rest {st : Dr} {R : Sto} {kv : O} {names : List Str} {tabs : List (Str × Int)} {kept : List Kept} {G : Sto} {m0 : Int} {pk : Nat} {kns : List Int} {Q : WK} {x11 x12 x13 x14 x17 : Option DL.W} (cl : Closed (B st R)) (g : Good st) (m1 : 0 ≤ m0) (m2 : m0 < 5) (hnd : names.Nodup) (hok : ∀ x ∈ names, OkN x) (hlen : names.length = (1 + m0 + 3).toNat) (ht : tabs.map (·.1) = names.take (1 + m0).toNat) (hw : ∀ tb ∈ tabs, 0 ≤ tb.2 ∧ tb.2 ≤ 4)
    (hkl : kept.length ≤ 3) (hkt : kept.map Kept.t = (names.drop (1 + m0).toNat).take kept.length) (hki : ∀ k ∈ kept, KeptIn (tabs.map (·.1)) k)
    (hpk : ∀ st T, (B st (HS R kv names (tabs ++ kept.map widK) kept (G ++ T)))[pk]? = some (.lst (kns.map W.int)))
    (q : ∀ st' h, Good st' → OkHouse h → Q (House.enc h) (B st' R)) :
    houseRest (endsW (R.length + 1 + 1) Q) [some (W.ref 1), some (W.int 5), some (W.int 8), some (W.int 2), some (W.int 4), some (W.int 3), some (W.int (1 + m0)), some (W.ref (List.length R + 1 + 1 + 1)), some (W.ref (List.length R + 2 + 1 + 1)), some (W.tup (List.map tabE tabs)), some (W.ref (List.length R + 3 + 1 + 1)), x11, x12, x13, x14, some (.ref pk), none, x17] (B st (HS R kv names (tabs ++ kept.map widK) kept G)) := by
  have htl : tabs.length = (1 + m0).toNat := by
    have := congrArg List.length ht
    rw [List.length_map, List.length_take] at this
    omega
  have okT : OkTabs tabs := ⟨fun e => by rw [e] at htl; simp at htl; omega, by omega, fun tb h => ⟨(hw tb h).1, by have := (hw tb h).2; omega⟩⟩
  have okT2 : OkTabs (tabs ++ kept.map widK) := ⟨fun e => okT.ne (List.append_eq_nil_iff.mp e).1, by rw [List.length_append, List.length_map]; omega, fun tb h => by
    rcases List.mem_append.mp h with h | h
    · exact okT.w tb h
    · obtain ⟨k, hk, rfl⟩ := List.mem_map.mp h
      have := (hki k hk).hd
      exact ⟨by show (0 : Int) ≤ (k.hd.length : Int); omega, by show (k.hd.length : Int) ≤ 20; omega⟩⟩
  have fin : ∀ (st : Dr) (rules : List Rule) (kept2 : List Kept) (w w2 : DL.W), rules.length ≤ 90 → (∀ r ∈ rules, RuleIn (tabs.map (·.1)) r) → kept2.Perm kept → OkHouse ⟨tabs ++ kept.map widK, .tup (kns.map W.int), w, rules, w2, kept2⟩ :=
    fun st rules kept2 w w2 h1 h2 h3 => house_okh hnd hok (by omega) ht hkl hkt hki h3 h1 h2
  generalize hT2 : tabs ++ kept.map widK = tabs2 at hpk okT2 fin
  unfold houseRest
  walk_at "dl"
  refine pick_ok g (by decide) (by decide) fun st1 n g1 n0 n1 => ?_
  walk_at "dl"
  refine names_ok (R := HS R kv names tabs2 kept G) rfl rfl g1 (by omega) (by omega) fun st2 nms kv2 g2 _ hnm _ => ?_
  refine doors_ok g2 okT2 (get_pre HS_tabs) (get_pre HS_kept) (by omega) (j3 := (HS R kv names tabs2 kept G).length + 1) (names := nms) get_app (by omega) fun st3 w g3 hwp => ?_
  rw [HSa]
  have hTt : ∀ (st : Dr) G, (B st (HS R kv names tabs2 kept G))[R.length + 2 + 1 + 1]? = some (.lst (tabs2.map tabE)) := fun _ _ => HS_tabs
  have hKk : ∀ (st : Dr) G, (B st (HS R kv names tabs2 kept G))[R.length + 3 + 1 + 1]? = some (.lst (kept.map Kept.enc)) := fun _ _ => HS_kept
  walk_at "dl"
  rw [e_tupleL (hTt st3 _), e_tupleL (hpk st3 _)]
  refine rules_ok g3 okT (by decide) (by decide) fun st4 rules g4 hrl hr => ?_
  refine ties_ok g4 okT (by decide) (by decide) fun st5 w2 g5 hwp2 => ?_
  refine sorted_kept_ok (hKk st5 _) fun kept2 hp => ?_
  rw [e_tupleL get_app0, HS_app]
  have hpure : ∀ {α : Type} (f : α → DL.W) (xs : List α), (∀ x, (f x).pure = true) → W.pureL (xs.map f) = true := fun f xs h => pureL_of fun w hw => by
    obtain ⟨x, _, rfl⟩ := List.mem_map.mp hw
    exact h x
  refine endBT (st := st) _ cl ?_ (q st5 ⟨tabs2, .tup (kns.map W.int), w, rules, w2, kept2⟩ g5 (fin st5 rules kept2 w w2 hrl hr hp))
  show (W.pureL (tabs2.map tabE) && (W.pureL (kns.map W.int) && (w.pure && (W.pureL (rules.map Rule.enc) && (w2.pure && (W.pureL (kept2.map Kept.enc) && true)))))) = true
  rw [hpure tabE tabs2 fun _ => rfl, pureL_ints, hwp, hpure Rule.enc rules rule_pure, hwp2, hpure Kept.enc kept2 kept_pure]
  rfl
def F_house : DSpec := fun ws S Q => ∃ st R, ws = [.ref 1, .int 5, .int 8, .int 2, .int 4, .int 3] ∧ S = B st R ∧ Good st ∧
  ∀ st' h, Good st' → OkHouse h → Q (House.enc h) (B st' R)
theorem vc_house : ∀ ws S Q, Closed S → F_house ws S Q → d_law_house F_pick F_names F_row F_shuf F_lmarks F_doors F_ties F_rules (endsW S.length Q) (startW N_law_house.length ws) S := by
  rintro ws S Q cl ⟨st, R, rfl, rfl, g, q⟩
  show d_law_house F_pick F_names F_row F_shuf F_lmarks F_doors F_ties F_rules _ [some (.ref 1), some _, some _, some _, some _, some _, none, none, none, none, none, none, none, none, none, none, none, none] _
  unfold d_law_house
  walk_at "dl"
  refine pick_ok g (by decide) (by decide) fun st1 m0 g1 m1 m2 => ?_
  walk_at "dl"
  refine names_ok (R := R) rfl rfl g1 (by omega) (by omega) fun st2 names kv g2 hnd hlen hok => ?_
  walk_at "dl"
  refine ⟨by omega, by omega, ?_⟩
  have hNm : ∀ (st : Dr) (T : Sto), (B st (R ++ kv :: stro names :: T))[R.length + 1 + 1 + 1]? = some (stro names) := fun st T => by
    show (R ++ _)[R.length + 1]? = _
    exact get_app
  refine compW_inv (fun i acc S2 => ∃ st, ∃ tabs : List (Str × Int), S2 = B st (R ++ [kv, stro names]) ∧ Good st ∧ acc = tabs.map tabE ∧ tabs.map (·.1) = names.take i ∧ ∀ tb ∈ tabs, 0 ≤ tb.2 ∧ tb.2 ≤ 4) ⟨st2, [], rfl, g2, rfl, rfl, (by intro r h; cases h)⟩ ?_ ?_
  · rintro i x acc S2 hx ⟨st3, tabs, rfl, g3, rfl, ht, hw⟩ N hN
    obtain ⟨hi, rfl⟩ := rng_get hx
    refine ⟨trivial, ?_⟩
    have hil : i < names.length := by omega
    walk_at "dl"
    rw [e_ixAL (hNm st3 []) (atI_nat (j := i) (v := W.str names[i]) (by rw [List.getElem?_map, List.getElem?_eq_getElem hil]; rfl))]
    refine pick_ok (R := R ++ [kv, stro names]) g3 (by decide) (by decide) fun st4 w g4 w0 w1 => ?_
    have htl : tabs.length ≤ i := by
      have := congrArg List.length ht
      rw [List.length_map, List.length_take] at this
      omega
    walk_at "dl"
    refine ⟨lt_sz (by omega), hN _ _ ⟨st4, tabs ++ [(names[i], 1 + w)], rfl, g4, ?_, ?_, fun tb htb => ?_⟩⟩
    · rw [List.map_append]
      rfl
    · rw [List.map_append, ht, take_snoc (List.getElem?_eq_getElem hil)]
      rfl
    · rcases List.mem_append.mp htb with h | h
      · exact hw tb h
      · rw [List.mem_singleton.mp h]
        exact ⟨by show 0 ≤ 1 + w; omega, by show 1 + w ≤ 4; omega⟩
  · rintro acc S2 ⟨st3, tabs, rfl, g3, rfl, ht, hw⟩
    rw [rng_len] at ht
    refine ⟨trivial, ?_⟩
    walk_at "dl"
    refine pick_ok (R := R ++ [kv, stro names, O.lst (tabs.map tabE), O.lst []]) g3 (by decide) (by decide) fun st4 n g4 n0 n1 => ⟨n, rfl, by omega, by omega, house_loop g4 m1 m2 hlen ht hw (by omega) fun st5 kept G x11 x12 x13 x14 x17 g5 hkl hkt hki => ?_⟩
    show dSeq (dAsg (dIf (dTru (dCall F_pick (aCons (dVar 0) (aCons (dC (.int 2)) aNil)))) (dCB vSorted (aCons (dComp (iRng1 (aCons (dCall F_pick (aCons (dVar 0) (aCons (dC (.int 13)) aNil))) aNil)) (gNm 17) dYes (dOp vAdd (dOp vMul (dCall F_pick (aCons (dVar 0) (aCons (dC (.int 9)) aNil))) (dC (.int 13))) (dVar 17)) [17]) aNil)) (dLst (aCons (dC (.int 0)) (aCons (dOp vPow (dC (.int 10)) (dC (.int 12))) aNil)))) (gNm 15)) houseRest _ _ _
    walk_at "dl"
    refine pick_ok g5 (by decide) (by decide) fun st6 c g6 c0 c1 => ?_
    walk_at "dl"
    have rest : ∀ (st : Dr) (G : Sto) (kns : List Int), Good st → houseRest (endsW (R.length + 1 + 1) Q) [some (W.ref 1), some (W.int 5), some (W.int 8), some (W.int 2), some (W.int 4), some (W.int 3), some (W.int (1 + m0)), some (W.ref (List.length R + 1 + 1 + 1)), some (W.ref (List.length R + 2 + 1 + 1)), some (W.tup (List.map tabE tabs)), some (W.ref (List.length R + 3 + 1 + 1)), x11, x12, x13, x14, some (W.ref ((HS R kv names (tabs ++ kept.map widK) kept G).length + 1 + 1)), none, x17] (B st (HS R kv names (tabs ++ kept.map widK) kept G ++ [.lst (kns.map W.int)])) := by
      intro st G kns gg
      rw [HSa, HS_len]
      refine house_rest (kns := kns) (closed_B cl) gg m1 m2 hnd hok hlen ht hw hkl hkt hki (fun st T => ?_) q
      show (HS R kv names (tabs ++ kept.map widK) kept ((G ++ [.lst (kns.map W.int)]) ++ T))[R.length + 4 + G.length]? = _
      rw [List.append_assoc]
      exact HS_at (k := 0)
    split
    · refine pick_ok g6 (by decide) (by decide) fun st7 d g7 d0 d1 => ⟨d, rfl, by omega, by omega, ?_⟩
      refine compW_inv (fun k acc S2 => ∃ st, ∃ ns : List Int, S2 = B st (HS R kv names (tabs ++ kept.map widK) kept G) ∧ Good st ∧ acc = ns.map W.int ∧ ns.length ≤ k) ⟨st7, [], rfl, g7, rfl, Nat.le_refl _⟩ ?_ ?_
      · rintro k x acc S2 hx ⟨st8, ns, rfl, g8, rfl, hl8⟩ N2 hN2
        obtain ⟨hk, rfl⟩ := rng_get hx
        refine ⟨trivial, ?_⟩
        walk_at "dl"
        refine pick_ok g8 (by decide) (by decide) fun st9 e g9 e0 e1 => ?_
        walk_at "dl"
        refine ⟨.inl (.inl ⟨by omega, by omega⟩), lt_sz (by omega), hN2 _ _ ⟨st9, ns ++ [e * 13 + (k : Int)], rfl, g9, ?_, by simp; omega⟩⟩
        rw [List.map_append]
        rfl
      · rintro acc S2 ⟨st8, ns, rfl, g8, rfl, hl8⟩
        refine ⟨trivial, ?_⟩
        refine sorted_ints_ok get_app0 fun ys => ?_
        rw [HS_app]
        exact rest st8 _ ys g8
    · exact ⟨⟨by decide, by decide, by decide⟩, rest st6 G [0, 10 ^ Int.toNat 12] g6⟩
theorem house_ok {st : Dr} {R : Sto} {Q : WK} (g : Good st) (k : ∀ st' h, Good st' → OkHouse h → Q (House.enc h) (B st' R)) : F_house [.ref 1, .int 5, .int 8, .int 2, .int 4, .int 3] (B st R) Q :=
  ⟨st, R, rfl, rfl, g, k⟩

end K09

namespace K09
open PySem PySem.Spec PyProof.Rows L2 TL DL
local macro_rules | `(tactic| walk_at "dl") => `(tactic| try simp (config := { decide := false }) only [e_seq, e_asg, e_nm, e_op, e_un, e_cb, e_c, e_var, e_ifs, e_tru, e_B, e_drop, e_bm, e_bm0, e_ret, e_retN, e_next, e_break, e_cont, e_nil, e_cons, e_tup, e_lst, e_sl, e_onone, e_osome, e_gsub, e_call, e_callk, e_and, e_or, e_not, e_andv, e_orv, e_notv, e_notU, e_isI, e_isS, e_isT, e_isR, e_isN, e_if, e_par, e_for, e_comp, e_iseq, e_rng1, e_yes, e_gtp, e_gc, e_gn0,
  e_addI, e_addS, e_addT, e_addL, e_i20, e_i2, e_neg, e_cmpI, e_cmpS, e_eqI, e_eqS, e_eqB, e_ixT, e_ixLit, e_ixL, e_ixS, e_set, e_ixAT, e_ixALit, e_ixAL, e_ixAS, e_ixAD, e_setAL, e_setAD, e_dict0, e_inAL, e_inAT, e_inAD, e_inAS, e_listAT, e_listALit, e_listAL, e_listAD, e_max2, e_extend, e_isalpha, e_enum, keyW, sz0, sz1, sz2, sz3, sz4, sz5, sz6, O.dk.injEq, e_slT, e_slLit, e_slS, e_slL, e_lenAS, e_lenAT, e_lenALit, e_lenAL, e_lenAD, e_lenS, e_lenT, e_lenLit, e_lenL, e_i1, e_intI, e_intB, e_strI, e_strS, e_listT, e_listLit, e_listL, e_tupleT, e_tupleL, e_append, e_pop0, e_tyL, e_tyS, e_truL, e_truT, e_truB, e_truI, e_truS, e_truN, e_seqT, e_seqLit, e_seqL, e_in, e_inT, e_isi, kit_ll, kit_ss, tyW_L, tyW_S, tyW_T, tyW_I, tyW_B, cut_to1, cut_to2, cut_from1, wipeW_nil, wipeW_cons, Nat.reduceAdd, eq_self, List.map_cons, List.map_nil,
  atI_0, atI_1, atI_2, atI_3, atI_4, atI_5, atI_end, ixN_0, ixN_1, ixN_11, ixN_last, List.map_append, List.map_cons, List.map_nil, get_app, get_app0, set_app, set_app0, List.cons_append, List.nil_append, List.append_assoc, List.length_append, List.length_cons, List.length_nil, Nat.zero_add, List.length_map, List.length_set,
  List.getElem?_cons_zero, List.getElem?_cons_succ, List.set_cons_zero, List.set_cons_succ, Option.some.injEq, exists_eq_left', exists_eq_left, exists_and_left, W.int.injEq, W.bl.injEq, W.str.injEq, W.tup.injEq, W.ref.injEq, O.lst.injEq, List.cons.injEq, reduceCtorEq, false_and, exists_false, or_false, false_or, true_and, and_true, decide_eq_true_eq, Bool.false_xor, Bool.true_xor, Bool.not_eq_true', decide_eq_false_iff_not, List.isEmpty_cons, List.isEmpty_nil, Bool.not_true, Bool.not_false, if_true, if_false, not_true_eq_false, not_false_eq_true, ne_eq, Bool.false_eq_true, reduceIte])



/-- a def hands back w0 and the objects os, found at the places ks behind the old store -/
theorem Ends0_pick {n : Nat} {Q : WK} {S T os : Sto} {ks : List Nat} {w0 : DL.W} (hn : n ≤ S.length) (cl : Closed S) (hl : ks.length = os.length) (nd : ks.Nodup)
    (hat : ∀ (i k : Nat) (o : O), ks[i]? = some k → os[i]? = some o → T[k]? = some o) (hr : ∀ o ∈ os, ∀ f, o.ren f = o) (hb : ∀ o ∈ os, ∀ m, o.bnd m = true) (hw : w0.bnd (S.length + os.length) = true) (q : Q w0 (S ++ os)) :
    Ends0 n Q (w0.ren (List.range S.length ++ ks.map (S.length + ·))) (S ++ T) := by
  have hf : ∀ i, i < S.length → (List.range S.length ++ ks.map (S.length + ·))[i]? = some i := fun i hi => by
    rw [List.getElem?_append_left (by rw [List.length_range]; exact hi)]
    exact List.getElem?_range hi
  have hlen : (List.range S.length ++ ks.map (S.length + ·)).length = S.length + os.length := by simp [hl]
  refine ⟨_, S ++ os, w0, by rw [hlen, List.length_append], fun i hi => hf i (by omega), ?_, fun i o ho => ?_, rfl, by rw [hlen]; exact hw, q⟩
  · refine List.nodup_append.mpr ⟨List.nodup_range, ?_, fun a ha b hb e => ?_⟩
    · exact List.pairwise_map.mpr (List.Pairwise.imp (fun {a b} hab e => hab (by omega)) nd)
    · obtain ⟨k, _, rfl⟩ := List.mem_map.mp hb
      have := List.mem_range.mp ha
      omega
  · rw [hlen]
    by_cases hi : i < S.length
    · rw [List.getElem?_append_left hi] at ho
      have b := cl i o ho
      refine ⟨O_bnd_mono (Nat.le_add_right _ _) o b, i, hf i hi, ?_⟩
      rw [List.getElem?_append_left hi, ho, O_ren_ext hf o b]
    · rw [List.getElem?_append_right (by omega)] at ho
      have hm := List.mem_of_getElem? ho
      have hio := (List.getElem?_eq_some_iff.mp ho).1
      have hk : ks[i - S.length]? = some ks[i - S.length] := List.getElem?_eq_getElem (by rw [hl]; exact hio)
      refine ⟨hb o hm _, S.length + ks[i - S.length], ?_, ?_⟩
      · rw [List.getElem?_append_right (by rw [List.length_range]; omega), List.length_range, List.getElem?_map, hk]
        rfl
      · rw [get_app, hat _ _ _ hk ho, hr o hm]
theorem lst_ren {ws : List DL.W} (h : W.pureL ws = true) (f : List Nat) : (O.lst ws).ren f = .lst ws := by
  show O.lst _ = _
  rw [renL_pure f ws h]
theorem lst_bnd {ws : List DL.W} (h : W.pureL ws = true) (m : Nat) : (O.lst ws).bnd m = true := pureL_bnd m ws h
/-! ### _law_ladder -/
structure Lad (names : List Str) (tabs : List (Str × Int)) (rules : List Rule) : Prop where
  nd : names.Nodup
  okn : ∀ x ∈ names, OkN x
  lo : 2 ≤ names.length
  hi : names.length ≤ 8
  ts : tabs.map (·.1) = names
  w : ∀ tb ∈ tabs, 0 ≤ tb.2 ∧ tb.2 ≤ 4
  len : rules.length ≤ 20
  ins : ∀ r ∈ rules, RuleIn names r
  chain : ∀ k, k + 1 < names.length → ∃ r, rules[k]? = some r ∧ names[k + 1]? = some r.head.t ∧ ∃ row ∈ r.body, names[k]? = some row.t
def F_ladder : DSpec := fun ws S Q => ∃ st R, ws = [.ref 1] ∧ S = B st R ∧ Good st ∧
  ∀ st' names tabs, ∀ rules : List Rule, Good st' → Lad names tabs rules → Q (.tup [.tup (tabs.map tabE), .ref (R.length + 1 + 1), .ref (R.length + 1 + 1 + 1)]) (B st' (R ++ [.lst (rules.map Rule.enc), stro names]))
def LS (R : Sto) (kv : O) (names : List Str) (X : O) (rules : List Rule) (G : Sto) : Sto := R ++ kv :: stro names :: X :: .lst (rules.map Rule.enc) :: G
section
variable {st : Dr} {R : Sto} {kv X : O} {names : List Str} {rules : List Rule} {G : Sto}
theorem LSa {L : Sto} : LS R kv names X rules G ++ L = LS R kv names X rules (G ++ L) := by
  unfold LS
  rw [List.append_assoc]
  rfl
theorem LS_at {L : Sto} {k : Nat} : (LS R kv names X rules (G ++ L))[R.length + 4 + G.length + k]? = L[k]? := by
  unfold LS
  have e : R.length + 4 + G.length + k = R.length + (G.length + k + 4) := by omega
  rw [e, get_app]
  show (G ++ L)[G.length + k]? = _
  exact get_app
theorem LS_names : (LS R kv names X rules G)[R.length + 1]? = some (stro names) := get_app
theorem LS_rules : (LS R kv names X rules G)[R.length + 3]? = some (.lst (rules.map Rule.enc)) := get_app
theorem LS_set {rules2 : List Rule} : (LS R kv names X rules G).set (R.length + 3) (.lst (rules2.map Rule.enc)) = LS R kv names X rules2 G := by
  unfold LS
  rw [set_app]
  rfl
theorem LS_len : (LS R kv names X rules G).length = R.length + 4 + G.length := by
  unfold LS
  simp
  omega
end
def ladTail : DS :=
(dDrop (dBM "list" vAppend (dVar 4) (aCons (dTup (aCons (dCB vTuple (aCons (dVar 7) aNil)) (aCons (dCall F_row (aCons (dVar 0) (aCons (dOp vIxA (dVar 3) (dOp vAdd (dVar 5) (dC (.int 1)))) (aCons (dVar 6) aNil)))) aNil))) aNil)))
theorem lad_tail {D : DEnds} {st : Dr} {R G : Sto} {kv X : O} {names mk : List Str} {tabs : List (Str × Int)} {rules : List Rule} {body : List Row} {m0 : Int} {i pm : Nat} {bw : DL.W} {x8 x9 x10 x11 : Option DL.W} (g : Good st) (ht : tabs.map (·.1) = names) (hw : ∀ tb ∈ tabs, 0 ≤ tb.2 ∧ tb.2 ≤ 4) (hi : i + 1 < names.length) (hl : rules.length ≤ 20)
    (hb : ∀ st Q, vTuple [bw] (B st (LS R kv names X rules G)) Q = Q (.tup (body.map Row.enc)) (B st (LS R kv names X rules G)))
    (hM : (LS R kv names X rules G)[pm]? = some (stro mk)) (hmk : mk.length = 4)
    (fin : ∀ st ms, Good st → ms.length ≤ 20 → D.nx [some (W.ref 1), some (W.int (2 + m0)), some (W.ref (R.length + 1 + 1 + 1)), some (.tup (tabs.map tabE)), some (W.ref (R.length + 3 + 1 + 1)), some (.int (i : Int)), some (.ref (pm + 1 + 1)), some bw, x8, x9, x10, x11] (B st (LS R kv names X (rules ++ [(⟨body, ⟨names[i + 1], ms⟩⟩ : Rule)]) G))) :
    ladTail D [some (W.ref 1), some (W.int (2 + m0)), some (W.ref (R.length + 1 + 1 + 1)), some (.tup (tabs.map tabE)), some (W.ref (R.length + 3 + 1 + 1)), some (.int (i : Int)), some (.ref (pm + 1 + 1)), some bw, x8, x9, x10, x11] (B st (LS R kv names X rules G)) := by
  have htl : tabs.length = names.length := by
    rw [← ht, List.length_map]
  unfold ladTail
  have hR : ∀ (st : Dr), (B st (LS R kv names X rules G))[R.length + 3 + 1 + 1]? = some (.lst (rules.map Rule.enc)) := fun _ => LS_rules
  have hS : ∀ (st : Dr) (rules2 : List Rule), (B st (LS R kv names X rules G)).set (R.length + 3 + 1 + 1) (.lst (rules2.map Rule.enc)) = B st (LS R kv names X rules2 G) := fun st rules2 => by
    show B st ((LS R kv names X rules G).set (R.length + 3) _) = _
    rw [LS_set]
  walk_at "dl"
  obtain ⟨tb, htb, htb2, htb3⟩ := at_map (f := tabE) (xs := tabs) (r := (i : Int) + 1) (by omega) (by omega)
  obtain ⟨w0, w1⟩ := hw tb htb
  have hn : names[i + 1] = tb.1 := by
    have e : ((i : Int) + 1).toNat = i + 1 := by omega
    rw [e] at htb2
    have z : names[i + 1]? = some tb.1 := by rw [← ht, List.getElem?_map, htb2]; rfl
    exact (List.getElem?_eq_some_iff.mp z).2
  rw [e_tyL (hR st), hb, e_ixAT htb3]
  refine ⟨trivial, row_ok g hM (fun e => by rw [e] at hmk; cases hmk) (by omega) w0 (by omega) fun st2 ms g2 hms => ?_⟩
  rw [e_append (hR st2)]
  have eK : O.lst (rules.map Rule.enc ++ [.tup [.tup (body.map Row.enc), Row.enc ⟨tb.1, ms⟩]]) = .lst ((rules ++ [(⟨body, ⟨names[i + 1], ms⟩⟩ : Rule)]).map Rule.enc) := by
    rw [List.map_append, hn]
    rfl
  rw [eK, hS]
  exact ⟨lt_sz (by rw [List.length_map]; omega), fin st2 ms g2 (by omega)⟩
structure LadN (names : List Str) (rules : List Rule) (i : Nat) : Prop where
  ins : ∀ r ∈ rules, RuleIn names r
  chain : ∀ k, k < i → ∃ r, rules[k]? = some r ∧ names[k + 1]? = some r.head.t ∧ ∃ row ∈ r.body, names[k]? = some row.t
theorem LadN.snoc {names : List Str} {rules : List Rule} {i : Nat} {r : Rule} (h : LadN names rules i) (hr : RuleIn names r) (hl : rules.length = i) (hh : names[i + 1]? = some r.head.t) (hb : ∃ row ∈ r.body, names[i]? = some row.t) : LadN names (rules ++ [r]) (i + 1) := by
  refine ⟨fun x hx => ?_, fun k hk => ?_⟩
  · rcases List.mem_append.mp hx with hx | hx
    · exact h.ins x hx
    · rw [List.mem_singleton.mp hx]
      exact hr
  · by_cases e : k = i
    · subst e
      refine ⟨r, ?_, hh, hb⟩
      rw [← hl]
      exact get_app0
    · obtain ⟨r2, h1, h2⟩ := h.chain k (by omega)
      refine ⟨r2, ?_, h2⟩
      rw [List.getElem?_append_left (by omega)]
      exact h1
theorem LadN.more {names : List Str} {rules : List Rule} {i : Nat} {r : Rule} (h : LadN names rules i) (hr : RuleIn names r) : LadN names (rules ++ [r]) i := by
  refine ⟨fun x hx => ?_, fun k hk => ?_⟩
  · rcases List.mem_append.mp hx with hx | hx
    · exact h.ins x hx
    · rw [List.mem_singleton.mp hx]
      exact hr
  · obtain ⟨r2, h1, h2⟩ := h.chain k hk
    refine ⟨r2, ?_, h2⟩
    rw [List.getElem?_append_left (List.getElem?_eq_some_iff.mp h1).1]
    exact h1
def lad1 : DS :=
(dSeq (dAsg (dCall F_names (aCons (dVar 0) (aCons (dC (.int 4)) (aCons dDict0 aNil)))) (gNm 6))
(dSeq (dAsg (dTup (aCons (dCall F_row (aCons (dVar 0) (aCons (dOp vIxA (dVar 3) (dVar 5)) (aCons (dVar 6) aNil)))) aNil)) (gNm 7))
(dSeq (dIfS (dAndT (dB (dOp vEq (dCall F_pick (aCons (dVar 0) (aCons (dC (.int 3)) aNil))) (dC (.int 0)))) (dB (dOp vLt (dCB vLenA (aCons (dVar 4) aNil)) (dC (.int 20)))))
(dAsg (dCall F_shuf (aCons (dVar 0) (aCons (dOp vAdd (dLst (aCons (dOp vIxA (dVar 7) (dC (.int 0))) aNil)) (dComp (iRng1 (aCons (dC (.int 2)) aNil)) (gNm 9) dYes (dCall F_row (aCons (dVar 0) (aCons (dOp vIxA (dVar 3) (dCall F_pick (aCons (dVar 0) (aCons (dOp vAdd (dVar 5) (dC (.int 1))) aNil)))) (aCons (dVar 6) aNil)))) [9])) aNil))) (gNm 7))
dNext)
ladTail)))
theorem lad_loop1 {D : DEnds} {st : Dr} {R G : Sto} {kv X : O} {names : List Str} {tabs : List (Str × Int)} {m0 : Int} {x5 x6 x7 x8 x9 x10 x11 : Option DL.W} (g : Good st) (m1 : 0 ≤ m0) (m2 : m0 < 7) (hlen : names.length = (2 + m0).toNat) (ht : tabs.map (·.1) = names) (hw : ∀ tb ∈ tabs, 0 ≤ tb.2 ∧ tb.2 ≤ 4)
    (fin : ∀ st, ∀ rules : List Rule, ∀ G x5 x6 x7, Good st → rules.length = names.length - 1 → LadN names rules (names.length - 1) → D.nx [some (W.ref 1), some (W.int (2 + m0)), some (W.ref (R.length + 1 + 1 + 1)), some (.tup (tabs.map tabE)), some (W.ref (R.length + 3 + 1 + 1)), x5, x6, x7, x8, x9, x10, x11] (B st (LS R kv names X rules G))) :
    forW (gNm 5) lad1 (fun _ => True) (rngW 0 (2 + m0 - 1).toNat) D [some (W.ref 1), some (W.int (2 + m0)), some (W.ref (R.length + 1 + 1 + 1)), some (.tup (tabs.map tabE)), some (W.ref (R.length + 3 + 1 + 1)), x5, x6, x7, x8, x9, x10, x11] (B st (LS R kv names X [] G)) := by
  have htl : tabs.length = names.length := by
    rw [← ht, List.length_map]
  refine forW_inv (fun i env S' => ∃ st, ∃ rules : List Rule, ∃ G x5 x6 x7, S' = B st (LS R kv names X rules G) ∧ Good st ∧ rules.length = i ∧ LadN names rules i ∧
      env = [some (W.ref 1), some (W.int (2 + m0)), some (W.ref (R.length + 1 + 1 + 1)), some (.tup (tabs.map tabE)), some (W.ref (R.length + 3 + 1 + 1)), x5, x6, x7, x8, x9, x10, x11]) ⟨st, [], G, _, _, _, rfl, g, rfl, ⟨(by intro r h; cases h), fun k h => absurd h (Nat.not_lt_zero k)⟩, rfl⟩ ?_ ?_
  · rintro i x env S' hx ⟨st2, rules, G, x5, x6, x7, rfl, g2, hl, hlad, rfl⟩ N hN
    obtain ⟨hi, rfl⟩ := rng_get hx
    refine ⟨trivial, ?_⟩
    unfold lad1
    walk_at "dl"
    refine names_ok (R := LS R kv names X rules G) rfl rfl g2 (by decide) (by decide) fun st3 mk kv2 g3 _ hmk _ => ?_
    rw [LS_len, LSa]
    have hmk4 : mk.length = 4 := hmk
    have hM : ∀ T : Sto, (LS R kv names X rules ((G ++ [kv2, stro mk]) ++ T))[R.length + 4 + G.length + 1]? = some (stro mk) := fun T => by
      rw [List.append_assoc, LS_at]
      rfl
    have hM0 := hM []
    rw [List.append_nil] at hM0
    generalize G ++ [kv2, stro mk] = G1 at hM hM0
    obtain ⟨tb, htb, htb2, htb3⟩ := at_map (f := tabE) (xs := tabs) (r := (i : Int)) (by omega) (by omega)
    obtain ⟨w0, w1⟩ := hw tb htb
    have hni : names[i]? = some tb.1 := by rw [← ht, List.getElem?_map]; simpa using congrArg (Option.map (·.1)) htb2
    have hn1 : names[i + 1]? = some (names[i + 1]'(by omega)) := List.getElem?_eq_getElem _
    walk_at "dl"
    rw [e_ixAT htb3]
    refine row_ok g3 hM0 (fun e => by rw [e] at hmk4; cases hmk4) (by omega) w0 (by omega) fun st4 ms g4 hms => ?_
    walk_at "dl"
    have hin0 : tb.1 ∈ names.take (i + 1) := List.mem_of_getElem? (i := i) (by rw [List.getElem?_take_of_lt (Nat.lt_succ_self i)]; exact hni)
    have tail : ∀ (st : Dr) (T : Sto) (body : List Row) (bw : DL.W), Good st → (∀ st Q, vTuple [bw] (B st (LS R kv names X rules (G1 ++ T))) Q = Q (.tup (body.map Row.enc)) (B st (LS R kv names X rules (G1 ++ T)))) →
        body.length ≤ 3 → (∀ row ∈ body, row.t ∈ names.take (i + 1) ∧ row.ms.length ≤ 20) → (∃ row ∈ body, names[i]? = some row.t) →
        ladTail { nx := N, rt := D.rt, bk := D.nx, ct := N } [some (W.ref 1), some (W.int (2 + m0)), some (W.ref (R.length + 1 + 1 + 1)), some (.tup (tabs.map tabE)), some (W.ref (R.length + 3 + 1 + 1)), some (.int (i : Int)), some (.ref (R.length + 4 + G.length + 1 + 1 + 1)), some bw, x8, x9, x10, x11] (B st (LS R kv names X rules (G1 ++ T))) := by
      intro st T body bw gg hb hbl hbr hbi
      refine lad_tail (body := body) gg ht hw (by omega) (by omega) hb (hM T) hmk4 fun st5 ms5 g5 hms5 => ?_
      refine hN _ _ ⟨st5, _, _, _, _, _, rfl, g5, by simp [hl], hlad.snoc ⟨⟨i + 1, hn1, fun row h => (hbr row h).1⟩, hbl, fun row h => (hbr row h).2, hms5⟩ hl hn1 hbi, rfl⟩
    have plain : ∀ (st : Dr), Good st → ladTail { nx := N, rt := D.rt, bk := D.nx, ct := N } [some (W.ref 1), some (W.int (2 + m0)), some (W.ref (R.length + 1 + 1 + 1)), some (.tup (tabs.map tabE)), some (W.ref (R.length + 3 + 1 + 1)), some (.int (i : Int)), some (.ref (R.length + 4 + G.length + 1 + 1 + 1)), some (.tup [Row.enc ⟨tb.1, ms⟩]), x8, x9, x10, x11] (B st (LS R kv names X rules G1)) := by
      intro st gg
      have z := tail st [] [⟨tb.1, ms⟩] (.tup [Row.enc ⟨tb.1, ms⟩]) gg (fun st Q => e_tupleT) (Nat.le_add_left 1 2) (fun row h => by rw [List.mem_singleton.mp h]; exact ⟨hin0, by show ms.length ≤ 20; omega⟩) ⟨_, List.mem_singleton.mpr rfl, hni⟩
      rw [List.append_nil] at z
      exact z
    refine pick_ok g4 (by decide) (by decide) fun st5 c g5 c0 c1 => ?_
    have hRl : ∀ (st : Dr), (B st (LS R kv names X rules G1))[R.length + 3 + 1 + 1]? = some (.lst (rules.map Rule.enc)) := fun _ => LS_rules
    walk_at "dl"
    split
    · rw [e_lenAL (hRl st5), List.length_map]
      walk_at "dl"
      rw [if_pos (by omega)]
      refine ⟨by decide, by decide, ?_⟩
      rw [LSa]
      refine compW_inv (fun k acc S2 => ∃ st, ∃ rows : List Row, S2 = B st (LS R kv names X rules (G1 ++ [O.lst [Row.enc ⟨tb.1, ms⟩]])) ∧ Good st ∧ acc = rows.map Row.enc ∧ rows.length = k ∧ ∀ row ∈ rows, row.t ∈ names.take (i + 1) ∧ row.ms.length ≤ 20) ⟨st5, [], rfl, g5, rfl, rfl, (by intro r h; cases h)⟩ ?_ ?_
      · rintro k x acc S2 hx ⟨st6, rows, rfl, g6, rfl, hlen2, hrows⟩ N2 hN2
        obtain ⟨hk, rfl⟩ := rng_get hx
        refine ⟨trivial, ?_⟩
        have hk2 : k < 2 := hk
        walk_at "dl"
        refine pick_ok g6 (by omega) (by omega) fun st7 r g7 r0 r1 => ?_
        obtain ⟨tb2, htc, htc2, htc3⟩ := at_map (f := tabE) (xs := tabs) r0 (by omega)
        obtain ⟨w2, w3⟩ := hw tb2 htc
        rw [e_ixAT htc3]
        refine row_ok (mk := mk) g7 (hM _) (fun e => by rw [e] at hmk4; cases hmk4) (by omega) w2 (by omega) fun st8 ms2 g8 hms2 => ?_
        refine ⟨lt_sz (by omega), hN2 _ _ ⟨st8, rows ++ [⟨tb2.1, ms2⟩], rfl, g8, ?_, by simp [hlen2], fun row hrow => ?_⟩⟩
        · rw [List.map_append]
          rfl
        · rcases List.mem_append.mp hrow with h | h
          · exact hrows row h
          · rw [List.mem_singleton.mp h]
            refine ⟨?_, by show ms2.length ≤ 20; omega⟩
            refine List.mem_of_getElem? (i := r.toNat) ?_
            rw [List.getElem?_take_of_lt (by omega), ← ht, List.getElem?_map, htc2]
            rfl
      · rintro acc S2 ⟨st6, rows, rfl, g6, rfl, hlen2, hrows⟩
        rw [rng_len] at hlen2
        have hlen3 : rows.length = 2 := hlen2
        refine ⟨trivial, ?_⟩
        walk_at "dl"
        have eG : LS R kv names X rules (G1 ++ [O.lst [Row.enc ⟨tb.1, ms⟩]]) ++ [O.lst (rows.map Row.enc)] = LS R kv names X rules (G1 ++ [O.lst [Row.enc ⟨tb.1, ms⟩], O.lst (rows.map Row.enc)]) := by
          rw [LSa, List.append_assoc]
          rfl
        have a1 : (B st6 (LS R kv names X rules (G1 ++ [O.lst [Row.enc ⟨tb.1, ms⟩], O.lst (rows.map Row.enc)])))[(LS R kv names X rules G1).length + 1 + 1]? = some (.lst [Row.enc ⟨tb.1, ms⟩]) := by
          rw [LS_len]
          exact LS_at (k := 0)
        have a2 : (B st6 (LS R kv names X rules (G1 ++ [O.lst [Row.enc ⟨tb.1, ms⟩], O.lst (rows.map Row.enc)])))[(LS R kv names X rules (G1 ++ [O.lst [Row.enc ⟨tb.1, ms⟩]])).length + 1 + 1]? = some (.lst (rows.map Row.enc)) := by
          rw [LS_len, List.length_append]
          exact LS_at (k := 1)
        rw [eG]
        show vAdd _ _ (B st6 (LS R kv names X rules (G1 ++ [O.lst [Row.enc ⟨tb.1, ms⟩], O.lst (rows.map Row.enc)]))) _
        rw [e_addL a1 a2]
        refine ⟨le_sz (by rw [List.length_map]; show 1 + _ ≤ _; omega), ?_⟩
        refine shuf_ok (R := LS R kv names X rules (G1 ++ [O.lst [Row.enc ⟨tb.1, ms⟩], O.lst (rows.map Row.enc)]) ++ [O.lst (([(⟨tb.1, ms⟩ : Row)] ++ rows).map Row.enc)]) (us := ([(⟨tb.1, ms⟩ : Row)] ++ rows).map Row.enc) g6 (.inr ⟨_, rfl, get_app0⟩) (pureL_of fun w hw => by
          obtain ⟨x, _, rfl⟩ := List.mem_map.mp hw
          exact row_pure x) (by rw [List.length_map, List.length_append]; show 1 + _ ≤ _; omega) fun st7 vs g7 hp => ?_
        obtain ⟨body, hb1, rfl⟩ := perm_map_ex hp ([(⟨tb.1, ms⟩ : Row)] ++ rows) rfl
        have eT : (LS R kv names X rules (G1 ++ [O.lst [Row.enc ⟨tb.1, ms⟩], O.lst (rows.map Row.enc)]) ++ [O.lst (([(⟨tb.1, ms⟩ : Row)] ++ rows).map Row.enc)]) ++ [O.lst (body.map Row.enc)] = LS R kv names X rules (G1 ++ [O.lst [Row.enc ⟨tb.1, ms⟩], O.lst (rows.map Row.enc), O.lst (([(⟨tb.1, ms⟩ : Row)] ++ rows).map Row.enc), O.lst (body.map Row.enc)]) := by
          rw [LSa, LSa, List.append_assoc, List.append_assoc]
          rfl
        have hbw : ∀ st, (B st (LS R kv names X rules (G1 ++ [O.lst [Row.enc ⟨tb.1, ms⟩], O.lst (rows.map Row.enc), O.lst (([(⟨tb.1, ms⟩ : Row)] ++ rows).map Row.enc), O.lst (body.map Row.enc)])))[(LS R kv names X rules (G1 ++ [O.lst [Row.enc ⟨tb.1, ms⟩], O.lst (rows.map Row.enc)]) ++ [O.lst (([(⟨tb.1, ms⟩ : Row)] ++ rows).map Row.enc)]).length + 1 + 1]? = some (.lst (body.map Row.enc)) := fun st => by
          rw [← eT]
          exact get_app0
        rw [eT]
        refine tail st7 _ body _ g7 (fun st Q => e_tupleL (hbw st)) ?_ (fun row h => ?_) ⟨⟨tb.1, ms⟩, hb1.mem_iff.mpr (List.mem_append_left _ (List.mem_singleton.mpr rfl)), hni⟩
        · rw [hb1.length_eq, List.length_append]
          show 1 + _ ≤ _
          omega
        · rcases List.mem_append.mp (hb1.mem_iff.mp h) with h | h
          · rw [List.mem_singleton.mp h]
            exact ⟨hin0, by show ms.length ≤ 20; omega⟩
          · exact hrows row h
    · exact plain st5 g5
  · rintro env S' ⟨st2, rules, G, x5, x6, x7, rfl, g2, hl, hlad, rfl⟩
    rw [rng_len] at hl hlad
    have e : (2 + m0 - 1).toNat = names.length - 1 := by omega
    rw [e] at hl hlad
    exact ⟨trivial, fin _ _ _ _ _ _ g2 hl hlad⟩
def lad2 : DS :=
(dSeq (dAsg (dCall F_pick (aCons (dVar 0) (aCons (dOp vSub (dVar 1) (dC (.int 1))) aNil))) (gNm 10))
(dSeq (dAsg (dCall F_names (aCons (dVar 0) (aCons (dC (.int 4)) (aCons dDict0 aNil)))) (gNm 6))
(dDrop (dBM "list" vAppend (dVar 4) (aCons (dTup (aCons (dTup (aCons (dCall F_row (aCons (dVar 0) (aCons (dOp vIxA (dVar 3) (dVar 10)) (aCons (dVar 6) aNil)))) aNil)) (aCons (dCall F_row (aCons (dVar 0) (aCons (dOp vIxA (dVar 3) (dOp vAdd (dOp vAdd (dVar 10) (dC (.int 1))) (dCall F_pick (aCons (dVar 0) (aCons (dOp vSub (dOp vSub (dVar 1) (dVar 10)) (dC (.int 1))) aNil))))) (aCons (dVar 6) aNil)))) aNil))) aNil)))))
theorem lad_loop2 {D : DEnds} {st : Dr} {R G : Sto} {kv X : O} {names : List Str} {tabs : List (Str × Int)} {rules : List Rule} {m0 e : Int} {x5 x6 x7 x9 x10 x11 : Option DL.W} (g : Good st) (m1 : 0 ≤ m0) (m2 : m0 < 7) (hlen : names.length = (2 + m0).toNat) (ht : tabs.map (·.1) = names) (hw : ∀ tb ∈ tabs, 0 ≤ tb.2 ∧ tb.2 ≤ 4)
    (hl : rules.length ≤ 9) (he0 : 0 ≤ e) (he : e ≤ 9) (hlad : LadN names rules (names.length - 1))
    (fin : ∀ st, ∀ rules : List Rule, ∀ G x6 x9 x10, Good st → rules.length ≤ 20 → LadN names rules (names.length - 1) → D.nx [some (W.ref 1), some (W.int (2 + m0)), some (W.ref (R.length + 1 + 1 + 1)), some (.tup (tabs.map tabE)), some (W.ref (R.length + 3 + 1 + 1)), x5, x6, x7, some (.int e), x9, x10, x11] (B st (LS R kv names X rules G))) :
    forW (gNm 9) lad2 (fun _ => True) (rngW 0 e.toNat) D [some (W.ref 1), some (W.int (2 + m0)), some (W.ref (R.length + 1 + 1 + 1)), some (.tup (tabs.map tabE)), some (W.ref (R.length + 3 + 1 + 1)), x5, x6, x7, some (.int e), x9, x10, x11] (B st (LS R kv names X rules G)) := by
  have htl : tabs.length = names.length := by
    rw [← ht, List.length_map]
  refine forW_inv (fun i env S' => ∃ st, ∃ rules2 : List Rule, ∃ G x6 x9 x10, S' = B st (LS R kv names X rules2 G) ∧ Good st ∧ rules2.length ≤ rules.length + i ∧ LadN names rules2 (names.length - 1) ∧
      env = [some (W.ref 1), some (W.int (2 + m0)), some (W.ref (R.length + 1 + 1 + 1)), some (.tup (tabs.map tabE)), some (W.ref (R.length + 3 + 1 + 1)), x5, x6, x7, some (.int e), x9, x10, x11]) ⟨st, rules, G, _, _, _, rfl, g, by omega, hlad, rfl⟩ ?_ ?_
  · rintro i x env S' hx ⟨st2, rules2, G, x6, x9, x10, rfl, g2, hl2, hlad2, rfl⟩ N hN
    obtain ⟨hi, rfl⟩ := rng_get hx
    refine ⟨trivial, ?_⟩
    unfold lad2
    walk_at "dl"
    refine pick_ok g2 (by omega) (by omega) fun st3 low g3 l0 l1 => ?_
    walk_at "dl"
    refine names_ok (R := LS R kv names X rules2 G) rfl rfl g3 (by decide) (by decide) fun st4 mk kv2 g4 _ hmk _ => ?_
    rw [LS_len, LSa]
    have hmk4 : mk.length = 4 := hmk
    have hM0 : (LS R kv names X rules2 (G ++ [kv2, stro mk]))[R.length + 4 + G.length + 1]? = some (stro mk) := LS_at
    generalize G ++ [kv2, stro mk] = G1 at hM0
    obtain ⟨tb, htb, htb2, htb3⟩ := at_map (f := tabE) (xs := tabs) (r := low) l0 (by omega)
    obtain ⟨w0, w1⟩ := hw tb htb
    have hn0 : names[low.toNat]? = some tb.1 := by
      rw [← ht, List.getElem?_map, htb2]
      rfl
    have hR : ∀ (st : Dr), (B st (LS R kv names X rules2 G1))[R.length + 3 + 1 + 1]? = some (.lst (rules2.map Rule.enc)) := fun _ => LS_rules
    walk_at "dl"
    rw [e_tyL (hR st4), e_ixAT htb3]
    refine ⟨trivial, row_ok g4 hM0 (fun e => by rw [e] at hmk4; cases hmk4) (by omega) w0 (by omega) fun st5 ms g5 hms => ?_⟩
    walk_at "dl"
    refine pick_ok g5 (by omega) (by omega) fun st6 up g6 u0 u1 => ?_
    obtain ⟨tb2, htc, htc2, htc3⟩ := at_map (f := tabE) (xs := tabs) (r := low + 1 + up) (by omega) (by omega)
    obtain ⟨w2, w3⟩ := hw tb2 htc
    have hn2 : names[(low + 1 + up).toNat]? = some tb2.1 := by
      rw [← ht, List.getElem?_map, htc2]
      rfl
    walk_at "dl"
    rw [e_ixAT htc3]
    refine row_ok g6 hM0 (fun e => by rw [e] at hmk4; cases hmk4) (by omega) w2 (by omega) fun st7 ms2 g7 hms2 => ?_
    rw [e_append (hR st7)]
    have eK : O.lst (rules2.map Rule.enc ++ [.tup [.tup [Row.enc ⟨tb.1, ms⟩], Row.enc ⟨tb2.1, ms2⟩]]) = .lst ((rules2 ++ [(⟨[⟨tb.1, ms⟩], ⟨tb2.1, ms2⟩⟩ : Rule)]).map Rule.enc) := by
      rw [List.map_append]
      rfl
    have hS : ∀ (st : Dr) (rules3 : List Rule), (B st (LS R kv names X rules2 G1)).set (R.length + 3 + 1 + 1) (.lst (rules3.map Rule.enc)) = B st (LS R kv names X rules3 G1) := fun st rules3 => by
      show B st ((LS R kv names X rules2 G1).set (R.length + 3) _) = _
      rw [LS_set]
    rw [eK, hS]
    refine ⟨lt_sz (by rw [List.length_map]; omega), hN _ _ ⟨st7, _, _, _, _, _, rfl, g7, by simp; omega, hlad2.more ⟨⟨_, hn2, fun row h => ?_⟩, Nat.le_add_left 1 2, fun row h => ?_, (by show ms2.length ≤ 20; omega)⟩, rfl⟩⟩
    · rw [List.mem_singleton.mp h]
      exact List.mem_of_getElem? (i := low.toNat) (by rw [List.getElem?_take_of_lt (by omega)]; exact hn0)
    · rw [List.mem_singleton.mp h]
      show ms.length ≤ 20
      omega
  · rintro env S' ⟨st2, rules2, G, x6, x9, x10, rfl, g2, hl2, hlad2, rfl⟩
    rw [rng_len] at hl2
    exact ⟨trivial, fin _ _ _ _ _ _ g2 (by omega) hlad2⟩
theorem lad_end {st st' : Dr} {R G : Sto} {kv X : O} {names : List Str} {tabs : List (Str × Int)} {rules : List Rule} {Q : WK} (cl : Closed (B st R))
    (q : Q (.tup [.tup (tabs.map tabE), .ref (R.length + 1 + 1), .ref (R.length + 1 + 1 + 1)]) (B st' (R ++ [.lst (rules.map Rule.enc), stro names]))) :
    Ends0 (R.length + 1 + 1) Q (.tup [.tup (tabs.map tabE), .ref (R.length + 3 + 1 + 1), .ref (R.length + 1 + 1 + 1)]) (B st' (LS R kv names X rules G)) := by
  have hp : W.pureL (tabs.map tabE) = true := pureL_of fun w hw => by
    obtain ⟨x, _, rfl⟩ := List.mem_map.mp hw
    rfl
  have hp2 : W.pureL (rules.map Rule.enc) = true := pureL_of fun w hw => by
    obtain ⟨x, _, rfl⟩ := List.mem_map.mp hw
    exact rule_pure x
  have hg : ∀ k v, ([3, 1].map ((B st' R).length + ·))[k]? = some v → (List.range (B st' R).length ++ [3, 1].map ((B st' R).length + ·)).getD (R.length + 1 + 1 + k) 0 = v := fun k v hv => by
    have z := get_app (R := List.range (B st' R).length) (L := [3, 1].map ((B st' R).length + ·)) (k := k)
    rw [List.length_range, hv] at z
    rw [List.getD_eq_getElem?_getD]
    show Option.getD (_[(B st' R).length + k]?) 0 = v
    rw [z]
    rfl
  have e : (.tup [.tup (tabs.map tabE), .ref (R.length + 3 + 1 + 1), .ref (R.length + 1 + 1 + 1)] : DL.W) = (DL.W.tup [.tup (tabs.map tabE), .ref (R.length + 1 + 1), .ref (R.length + 1 + 1 + 1)]).ren (List.range (B st' R).length ++ [3, 1].map ((B st' R).length + ·)) := by
    show _ = DL.W.tup [.tup (W.renL _ (tabs.map tabE)), .ref (List.getD _ (R.length + 1 + 1 + 0) 0), .ref (List.getD _ (R.length + 1 + 1 + 1) 0)]
    rw [renL_pure _ _ hp, hg 0 (R.length + 3 + 1 + 1) rfl, hg 1 (R.length + 1 + 1 + 1) rfl]
  rw [e]
  refine Ends0_pick (S := B st' R) (T := kv :: stro names :: X :: .lst (rules.map Rule.enc) :: G) (os := [.lst (rules.map Rule.enc), stro names]) (ks := [3, 1]) (Nat.le_refl _) (closed_B cl) rfl (by decide) (fun i k o h1 h2 => ?_) (fun o ho f => ?_) (fun o ho m => ?_) ?_ q
  · match i, h1, h2 with
    | 0, h1, h2 =>
      cases (show some 3 = some k from h1)
      exact h2
    | 1, h1, h2 =>
      cases (show some 1 = some k from h1)
      exact h2
    | i + 2, h1, _ => cases h1
  · rcases List.mem_cons.mp ho with rfl | ho
    · exact lst_ren hp2 f
    · rw [List.mem_singleton.mp ho]
      exact lst_ren (pureL_strs names) f
  · rcases List.mem_cons.mp ho with rfl | ho
    · exact lst_bnd hp2 m
    · rw [List.mem_singleton.mp ho]
      exact lst_bnd (pureL_strs names) m
  · show (W.bndL _ (tabs.map tabE) && (decide (R.length + 1 + 1 < R.length + 1 + 1 + 2) && (decide (R.length + 1 + 1 + 1 < R.length + 1 + 1 + 2) && true))) = true
    rw [pureL_bnd _ _ hp, decide_eq_true (by omega), decide_eq_true (by omega)]
    rfl
theorem vc_ladder : ∀ ws S Q, Closed S → F_ladder ws S Q → d_law_ladder F_pick F_names F_row F_shuf (endsW S.length Q) (startW N_law_ladder.length ws) S := by
  rintro ws S Q cl ⟨st, R, rfl, rfl, g, q⟩
  show d_law_ladder F_pick F_names F_row F_shuf _ [some (.ref 1), none, none, none, none, none, none, none, none, none, none, none] _
  unfold d_law_ladder
  walk_at "dl"
  refine pick_ok g (by decide) (by decide) fun st1 m0 g1 m1 m2 => ?_
  walk_at "dl"
  refine names_ok (R := R) rfl rfl g1 (by omega) (by omega) fun st2 names kv g2 hnd hlen hok => ?_
  walk_at "dl"
  have hNm : ∀ (st : Dr) (T : Sto), (B st (R ++ kv :: stro names :: T))[R.length + 1 + 1 + 1]? = some (stro names) := fun st T => by
    show (R ++ _)[R.length + 1]? = _
    exact get_app
  refine compW_inv (fun i acc S2 => ∃ st, ∃ tabs : List (Str × Int), S2 = B st (R ++ [kv, stro names]) ∧ Good st ∧ acc = tabs.map tabE ∧ tabs.map (·.1) = names.take i ∧ ∀ tb ∈ tabs, 0 ≤ tb.2 ∧ tb.2 ≤ 4) ⟨st2, [], rfl, g2, rfl, rfl, (by intro r h; cases h)⟩ ?_ ?_
  · rintro i x acc S2 hx ⟨st3, tabs, rfl, g3, rfl, ht, hw⟩ N hN
    obtain ⟨nm, hnm, rfl, _, hi⟩ := map_get hx
    refine ⟨hNm _ _, ?_⟩
    walk_at "dl"
    refine pick_ok (R := R ++ [kv, stro names]) g3 (by decide) (by decide) fun st4 w g4 w0 w1 => ?_
    have htl : tabs.length ≤ i := by
      have := congrArg List.length ht
      rw [List.length_map, List.length_take] at this
      omega
    walk_at "dl"
    refine ⟨lt_sz (by omega), hN _ _ ⟨st4, tabs ++ [(nm, 1 + w)], rfl, g4, ?_, ?_, fun tb htb => ?_⟩⟩
    · rw [List.map_append]
      rfl
    · rw [List.map_append, ht, take_snoc hnm]
      rfl
    · rcases List.mem_append.mp htb with h | h
      · exact hw tb h
      · rw [List.mem_singleton.mp h]
        exact ⟨by show 0 ≤ 1 + w; omega, by show 1 + w ≤ 4; omega⟩
  · rintro acc S2 ⟨st3, tabs, rfl, g3, rfl, ht, hw⟩
    rw [List.length_map, List.take_length] at ht
    refine ⟨hNm _ _, ?_⟩
    walk_at "dl"
    refine ⟨by omega, by omega, ?_⟩
    refine lad_loop1 (R := R) (G := []) g3 m1 m2 hlen ht hw fun st4 rules G x5 x6 x7 g4 hl hlad => ?_
    have hR : ∀ (st : Dr), (B st (LS R kv names (O.lst (tabs.map tabE)) rules G))[R.length + 3 + 1 + 1]? = some (.lst (rules.map Rule.enc)) := fun _ => LS_rules
    walk_at "dl"
    rw [e_lenAL (hR st4), List.length_map]
    walk_at "dl"
    refine pick_ok g4 (by omega) (by omega) fun st5 e g5 e0 e1 => ?_
    walk_at "dl"
    refine ⟨by omega, by omega, ?_⟩
    refine lad_loop2 g5 m1 m2 hlen ht hw (by omega) e0 (by omega) hlad fun st6 rules2 G x6 x9 x10 g6 hl2 hlad2 => ?_
    walk_at "dl"
    refine lad_end cl (q st6 names tabs rules2 g6 ⟨hnd, hok, by omega, by omega, ht, hw, hl2, hlad2.ins, fun k hk => hlad2.chain k (by omega)⟩)

end K09

/-! K09Q: levels and parts of a ladder; plain Lean. -/
namespace K09
open PySem L2 DL
theorem lvBody_le {f : Str → Int} {M : Int} : ∀ (body : List Row) (m : Int), m ≤ M → (∀ row ∈ body, f row.t + 1 ≤ M) → lvBody f m body ≤ M
  | [], _, h, _ => h
  | row :: body, m, h, hb => lvBody_le body (max m (f row.t + 1)) (Int.max_le.mpr ⟨h, hb row (List.mem_cons_self ..)⟩) (fun r hr => hb r (List.mem_cons_of_mem _ hr))
theorem lvBody_ge {f : Str → Int} : ∀ (body : List Row) (m : Int), m ≤ lvBody f m body
  | [], m => Int.le_refl m
  | row :: body, m => Int.le_trans (Int.le_max_left m (f row.t + 1)) (lvBody_ge body (max m (f row.t + 1)))
theorem lvBody_in {f : Str → Int} {r : Row} : ∀ (body : List Row) (m : Int), r ∈ body → f r.t + 1 ≤ lvBody f m body
  | row :: body, m, h => by
    rcases List.mem_cons.mp h with rfl | h
    · exact Int.le_trans (Int.le_max_right m (f r.t + 1)) (lvBody_ge body (max m (f r.t + 1)))
    · exact lvBody_in body (max m (f row.t + 1)) h
theorem lvFold_le {rules : List Rule} {f : Str → Int} {M : Int} : ∀ (ns : List Nat) (m : Int), m ≤ M → (∀ n ∈ ns, ∀ row ∈ bodyAt rules n, f row.t + 1 ≤ M) → ns.foldl (fun m n => lvBody f m (bodyAt rules n)) m ≤ M
  | [], _, h, _ => h
  | n :: ns, m, h, hb => lvFold_le ns (lvBody f m (bodyAt rules n)) (lvBody_le _ m h (hb n (List.mem_cons_self ..))) (fun k hk => hb k (List.mem_cons_of_mem _ hk))
theorem lvFold_ge {rules : List Rule} {f : Str → Int} : ∀ (ns : List Nat) (m : Int), m ≤ ns.foldl (fun m n => lvBody f m (bodyAt rules n)) m
  | [], m => Int.le_refl m
  | n :: ns, m => Int.le_trans (lvBody_ge (f := f) (bodyAt rules n) m) (lvFold_ge ns _)
theorem lvFold_in {rules : List Rule} {f : Str → Int} {n : Nat} {r : Row} : ∀ (ns : List Nat) (m : Int), n ∈ ns → r ∈ bodyAt rules n → f r.t + 1 ≤ ns.foldl (fun m n => lvBody f m (bodyAt rules n)) m
  | k :: ns, m, h, hr => by
    rcases List.mem_cons.mp h with rfl | h
    · exact Int.le_trans (lvBody_in (f := f) (bodyAt rules n) m hr) (lvFold_ge ns _)
    · exact lvFold_in ns (lvBody f m (bodyAt rules k)) h hr
theorem into_mem {rules : List Rule} {t : Str} {i : Nat} : i ∈ intoN rules t ↔ ∃ r, rules[i]? = some r ∧ r.head.t = t := by
  unfold intoN
  rw [List.mem_filter, List.mem_range]
  unfold isInto
  constructor
  · rintro ⟨h, e⟩
    rw [List.getElem?_eq_getElem h] at e
    exact ⟨_, List.getElem?_eq_getElem h, of_decide_eq_true e⟩
  · rintro ⟨r, h, e⟩
    refine ⟨(List.getElem?_eq_some_iff.mp h).1, ?_⟩
    rw [h]
    exact decide_eq_true e
theorem bodyAt_eq {rules : List Rule} {n : Nat} {r : Rule} (h : rules[n]? = some r) : bodyAt rules n = r.body := by
  unfold bodyAt
  rw [h]
structure LadR (ns : List Str) (rules : List Rule) : Prop where
  nd : ns.Nodup
  ins : ∀ r ∈ rules, RuleIn ns r
  chain : ∀ k, k + 1 < ns.length → ∃ r ∈ rules, ns[k + 1]? = some r.head.t ∧ ∃ row ∈ r.body, ns[k]? = some row.t
theorem nd_idx {ns : List Str} (nd : ns.Nodup) {i j : Nat} {x : Str} (h1 : ns[i]? = some x) (h2 : ns[j]? = some x) : i = j := by
  rcases Nat.lt_trichotomy i j with h | h | h
  · exact absurd (List.mem_of_getElem? (i := i) (by rw [List.getElem?_take_of_lt h]; exact h1)) (not_in_take nd h2)
  · exact h
  · exact absurd (List.mem_of_getElem? (i := j) (by rw [List.getElem?_take_of_lt h]; exact h2)) (not_in_take nd h1)
theorem in_take {ns : List Str} {top : Nat} {x : Str} (h : x ∈ ns.take top) : ∃ k, k < top ∧ ns[k]? = some x := by
  obtain ⟨k, hk⟩ := List.mem_iff_getElem?.mp h
  have hk1 := (List.getElem?_eq_some_iff.mp hk).1
  rw [List.length_take] at hk1
  rw [List.getElem?_take_of_lt (by omega)] at hk
  exact ⟨k, by omega, hk⟩
theorem lev_lad {ns : List Str} {rules : List Rule} (h : LadR ns rules) : ∀ i, i ≤ ns.length → ∀ (j : Nat) (x : Str), j < i → ns[j]? = some x → levF rules (ns.take i) x = (j : Int) := by
  intro i
  induction i with
  | zero => intro _ j x hj; exact absurd hj (Nat.not_lt_zero j)
  | succ i ih =>
    intro hi j x hj hx
    have hil : i < ns.length := hi
    have hni := List.getElem?_eq_getElem hil
    rw [take_snoc hni, levF_snoc]
    show (if x = ns[i] then lvOne rules (levF rules (ns.take i)) ns[i] else levF rules (ns.take i) x) = _
    by_cases e : j = i
    · subst e
      have ex : x = ns[j] := Option.some.inj (hx.symm.trans hni)
      rw [if_pos ex]
      refine Int.le_antisymm ?_ ?_
      · refine lvFold_le _ _ (by omega : (0:Int) ≤ (j : Int)) fun n hn row hr => ?_
        obtain ⟨r, hr1, hr2⟩ := into_mem.mp hn
        rw [bodyAt_eq hr1] at hr
        obtain ⟨top, ht, hb2⟩ := (h.ins r (List.mem_of_getElem? hr1)).at_
        have et : top = j := nd_idx h.nd ht (by rw [hr2]; exact hni)
        rw [et] at hb2
        obtain ⟨k, hk1, hk⟩ := in_take (hb2 row hr)
        rw [ih (by omega) k row.t hk1 hk]
        omega
      · by_cases h0 : j = 0
        · subst h0
          exact lvFold_ge _ 0
        · obtain ⟨r, hr, hh, row, hrow, hk⟩ := h.chain (j - 1) (by omega)
          have e1 : j - 1 + 1 = j := by omega
          rw [e1] at hh
          obtain ⟨n, hn⟩ := List.mem_iff_getElem?.mp hr
          have z := lvFold_in (rules := rules) (f := levF rules (ns.take j)) (r := row) _ 0 (into_mem.mpr ⟨r, hn, Option.some.inj (hh.symm.trans hni)⟩) (by rw [bodyAt_eq hn]; exact hrow)
          rw [ih (by omega) (j - 1) row.t (by omega) hk] at z
          exact Int.le_trans (by omega) z
    · rw [if_neg (fun ex => e (nd_idx h.nd hx (by rw [ex]; exact hni)))]
      exact ih (by omega) j x (by omega) hx
theorem lev_at {ns : List Str} {rules : List Rule} (h : LadR ns rules) {j : Nat} {x : Str} (hx : ns[j]? = some x) : levF rules ns x = (j : Int) := by
  have z := lev_lad h ns.length (Nat.le_refl _) j x (List.getElem?_eq_some_iff.mp hx).1 hx
  rw [List.take_length] at z
  exact z
theorem lev_none {rules : List Rule} {t : Str} (h : ∀ r ∈ rules, r.head.t ≠ t) : ∀ (ts : List Str), levF rules ts t = 0 := by
  intro ts
  have e0 : intoN rules t = [] := List.eq_nil_iff_forall_not_mem.mpr fun i hi => by
    obtain ⟨r, hr, e⟩ := into_mem.mp hi
    exact h r (List.mem_of_getElem? hr) e
  have go : ∀ (ts : List Str) (f : Str → Int), f t = 0 → (ts.foldl (levStep rules) f) t = 0 := by
    intro ts
    induction ts with
    | nil => intro f hf; exact hf
    | cons a ts ih =>
      intro f hf
      rw [List.foldl_cons]
      refine ih _ ?_
      show (if t = a then lvOne rules f a else f t) = 0
      split
      · rename_i e
        subst e
        unfold lvOne
        rw [e0]
        rfl
      · exact hf
  exact go ts _ rfl
/-! ### parts -/
theorem step_keep {lab : Str → Int} {g : List Str} {x y : Str} (e : lab x = lab y) : stepL lab g x = stepL lab g y := by
  cases g with
  | nil => exact e
  | cons a g => exact (stepL_eq (List.cons_ne_nil a g) x y).mpr (Or.inl e)
theorem steps_keep : ∀ (gs : List (List Str)) (lab : Str → Int) (x y : Str), lab x = lab y → gs.foldl stepL lab x = gs.foldl stepL lab y
  | [], _, _, _, e => e
  | g :: gs, lab, x, y, e => steps_keep gs (stepL lab g) x y (step_keep e)
theorem steps_in {g : List Str} {x y : Str} : ∀ (gs : List (List Str)) (lab : Str → Int), g ∈ gs → x ∈ g → y ∈ g → gs.foldl stepL lab x = gs.foldl stepL lab y
  | g0 :: gs, lab, hg, hx, hy => by
    rw [List.foldl_cons]
    rcases List.mem_cons.mp hg with rfl | hg
    · exact steps_keep gs _ x y ((stepL_eq (List.ne_nil_of_mem hx) x y).mpr (Or.inr ⟨⟨x, hx, rfl⟩, ⟨y, hy, rfl⟩⟩))
    · exact steps_in gs _ hg hx hy
theorem steps_f {ns : List Str} {f : Str → Bool} : ∀ (gs : List (List Str)) (lab : Str → Int), (∀ g ∈ gs, ∀ x ∈ g, x ∈ ns) → (∀ g ∈ gs, ∀ x ∈ g, ∀ y ∈ g, f x = f y) → (∀ x ∈ ns, ∀ y ∈ ns, lab x = lab y → f x = f y) →
    ∀ x ∈ ns, ∀ y ∈ ns, gs.foldl stepL lab x = gs.foldl stepL lab y → f x = f y
  | [], _, _, _, h => h
  | g :: gs, lab, h1, h2, h => by
    refine steps_f gs (stepL lab g) (fun k hk => h1 k (List.mem_cons_of_mem _ hk)) (fun k hk => h2 k (List.mem_cons_of_mem _ hk)) fun x hx y hy e => ?_
    have hg1 := h1 g (List.mem_cons_self ..)
    have hg2 := h2 g (List.mem_cons_self ..)
    cases g with
    | nil => exact h x hx y hy e
    | cons a g =>
      rcases (stepL_eq (List.cons_ne_nil a g) x y).mp e with e | ⟨⟨b, hb, e1⟩, ⟨c, hc, e2⟩⟩
      · exact h x hx y hy e
      · rw [h x hx b (hg1 b hb) e1, h y hy c (hg1 c hc) e2]
        exact hg2 b hb c hc
theorem addL_same {c : List Str} : ∀ (l : List (List Str)), (∀ y ∈ l, y = c) → l.foldl addL [c] = [c]
  | [], _ => rfl
  | y :: l, h => by
    have e := h y (List.mem_cons_self ..)
    have e2 : addL [c] y = [c] := by
      unfold addL
      rw [if_pos (by rw [e]; exact List.mem_singleton.mpr rfl)]
    rw [List.foldl_cons, e2]
    exact addL_same l fun z hz => h z (List.mem_cons_of_mem _ hz)
theorem classes_one {ns : List Str} {lab : Str → Int} (hne : ns ≠ []) (h : ∀ x ∈ ns, ∀ y ∈ ns, lab x = lab y) : classes ns lab = [ns.mergeSort strLe] := by
  have hc : ∀ t ∈ ns, classOf ns lab t = ns.mergeSort strLe := fun t ht => by
    unfold classOf
    rw [List.filter_eq_self.mpr fun x hx => decide_eq_true (h x hx t ht)]
  have hl : ∀ y ∈ ns.map (classOf ns lab), y = ns.mergeSort strLe := fun y hy => by
    obtain ⟨t, ht, rfl⟩ := List.mem_map.mp hy
    exact hc t ht
  unfold classes
  generalize ns.mergeSort strLe = c at hl
  have hn2 : ns.map (classOf ns lab) ≠ [] := fun e => hne (List.map_eq_nil_iff.mp e)
  generalize ns.map (classOf ns lab) = L at hl hn2
  cases L with
  | nil => exact absurd rfl hn2
  | cons y L =>
    have e := hl y (List.mem_cons_self ..)
    have e2 : addL [] y = [c] := by
      rw [e]
      rfl
    rw [List.foldl_cons, e2]
    exact addL_same L fun z hz => hl z (List.mem_cons_of_mem _ hz)
theorem classOf_mem {ns : List Str} {lab : Str → Int} {t x : Str} : x ∈ classOf ns lab t ↔ x ∈ ns ∧ lab x = lab t := by
  unfold classOf
  rw [List.mem_mergeSort, List.mem_filter, decide_eq_true_eq]
theorem classes_two {ns : List Str} {lab : Str → Int} {a b : Str} (ha : a ∈ ns) (hb : b ∈ ns) (h : lab a ≠ lab b) : 2 ≤ (classes ns lab).length := by
  have m : ∀ t ∈ ns, classOf ns lab t ∈ classes ns lab := fun t ht => ((foldL (ns.map (classOf ns lab)) [] List.nodup_nil).2 _).mpr (Or.inr (List.mem_map.mpr ⟨t, ht, rfl⟩))
  have m1 := m a ha
  have m2 := m b hb
  have ne : classOf ns lab a ≠ classOf ns lab b := fun e => by
    have z : a ∈ classOf ns lab b := by
      rw [← e]
      exact classOf_mem.mpr ⟨ha, rfl⟩
    exact h (classOf_mem.mp z).2
  generalize classes ns lab = L at m1 m2
  match L, m1, m2 with
  | [], m1, _ => cases m1
  | [z], m1, m2 => exact absurd ((List.mem_singleton.mp m1).trans (List.mem_singleton.mp m2).symm) ne
  | _ :: _ :: _, _, _ => simp
theorem okh_rules {names : List Str} {tabs : List (Str × Int)} {known : DL.W} {rules : List Rule} (hnd : names.Nodup) (hok : ∀ x ∈ names, OkN x) (hl : names.length ≤ 20) (ht : tabs.map (·.1) = names) (hrl : rules.length ≤ 90) (hr : ∀ r ∈ rules, RuleIn names r) :
    OkHouse ⟨tabs, known, .tup [], rules, .tup [], []⟩ := by
  have z := house_okh (kept := []) (kept2 := []) (known := known) (doors := .tup []) (ties := .tup []) hnd hok hl (by rw [ht, List.take_length]) (Nat.zero_le 3) rfl (by intro k hk; cases hk) (List.Perm.refl []) hrl (by rw [ht]; exact hr)
  rw [List.map_nil, List.append_nil] at z
  exact z
theorem lad_parts {names : List Str} {tabs : List (Str × Int)} {known : DL.W} {rules : List Rule} (hne : names ≠ []) (h : LadR names rules) (ht : tabs.map (·.1) = names) : outL ⟨tabs, known, .tup [], rules, .tup [], []⟩ = [names.mergeSort strLe] := by
  subst ht
  unfold outL
  have hc : classes (tabs.map (·.1)) (labF ⟨tabs, known, .tup [], rules, .tup [], []⟩) = [(tabs.map (·.1)).mergeSort strLe] := by
    refine classes_one hne ?_
    have chain : ∀ (k : Nat) (x y : Str), (tabs.map (·.1))[k]? = some x → (tabs.map (·.1))[k + 1]? = some y → labF ⟨tabs, known, .tup [], rules, .tup [], []⟩ x = labF ⟨tabs, known, .tup [], rules, .tup [], []⟩ y := fun k x y hx hy => by
      obtain ⟨r, hr, hh, row, hrow, hk⟩ := h.chain k (List.getElem?_eq_some_iff.mp hy).1
      have ex : x = row.t := Option.some.inj (hx.symm.trans hk)
      have ey : y = r.head.t := Option.some.inj (hy.symm.trans hh)
      refine steps_in (g := r.group) _ _ (List.mem_append_left _ (List.mem_map.mpr ⟨r, hr, rfl⟩)) ?_ ?_
      · rw [ex]
        exact List.mem_append_left _ (List.mem_map.mpr ⟨row, hrow, rfl⟩)
      · rw [ey]
        exact List.mem_append_right _ (List.mem_singleton.mpr rfl)
    have z0 : ∃ z, (tabs.map (·.1))[0]? = some z := by
      cases e : tabs.map (·.1) with
      | nil => exact absurd e hne
      | cons z _ => exact ⟨z, rfl⟩
    obtain ⟨z, hz⟩ := z0
    have all : ∀ (k : Nat) (x : Str), (tabs.map (·.1))[k]? = some x → labF ⟨tabs, known, .tup [], rules, .tup [], []⟩ x = labF ⟨tabs, known, .tup [], rules, .tup [], []⟩ z := by
      intro k
      induction k with
      | zero =>
        intro x hx
        rw [Option.some.inj (hx.symm.trans hz)]
      | succ k ih =>
        intro y hy
        have hk : k < (tabs.map (·.1)).length := Nat.lt_of_succ_lt (List.getElem?_eq_some_iff.mp hy).1
        have hx := List.getElem?_eq_getElem hk
        rw [← chain k _ y hx hy]
        exact ih _ hx
    intro x hx y hy
    obtain ⟨i, hi⟩ := List.mem_iff_getElem?.mp hx
    obtain ⟨j, hj⟩ := List.mem_iff_getElem?.mp hy
    rw [all i x hi, all j y hj]
  show (classes (tabs.map (·.1)) _).mergeSort tupLe = _
  rw [hc, List.mergeSort_singleton]
theorem apart_parts {names : List Str} {tabs : List (Str × Int)} {known : DL.W} {rules : List Rule} {lost : Nat} (ok : OkHouse ⟨tabs, known, .tup [], rules, .tup [], []⟩) (ht : tabs.map (·.1) = names) (hl : lost + 1 < names.length)
    (h : ∀ r ∈ rules, ∃ k, k ≠ lost ∧ names[k + 1]? = some r.head.t ∧ ∃ row, r.body = [row] ∧ names[k]? = some row.t) : 2 ≤ (outL ⟨tabs, known, .tup [], rules, .tup [], []⟩).length := by
  subst ht
  have nd : (tabs.map (·.1)).Nodup := ok.nd
  unfold outL
  rw [List.length_mergeSort]
  have h1 := List.getElem?_eq_getElem (Nat.lt_of_succ_lt hl)
  have h2 := List.getElem?_eq_getElem hl
  have inT : ∀ (k : Nat) (x : Str), (tabs.map (·.1))[k]? = some x → (x ∈ (tabs.map (·.1)).take (lost + 1) ↔ k ≤ lost) := fun k x hx => by
    constructor
    · intro hm
      obtain ⟨j, hj, hj2⟩ := in_take hm
      have := nd_idx nd hx hj2
      omega
    · intro hk
      exact List.mem_of_getElem? (i := k) (by rw [List.getElem?_take_of_lt (by omega)]; exact hx)
  refine classes_two (List.mem_of_getElem? h1) (List.mem_of_getElem? h2) fun e => ?_
  have z := steps_f (f := fun x => decide (x ∈ (tabs.map (·.1)).take (lost + 1))) _ _ (groups_ok ok) (fun g hg => ?_) (fun x hx y hy e => by rw [lab0_inj x hx y hy e]) _ (List.mem_of_getElem? h1) _ (List.mem_of_getElem? h2) e
  · have a1 := (inT _ _ h1).mpr (Nat.le_refl _)
    have a2 : ¬ _ := fun m => absurd ((inT _ _ h2).mp m) (by omega)
    rw [decide_eq_true a1, decide_eq_false a2] at z
    cases z
  · rcases List.mem_append.mp hg with hg | hg
    · obtain ⟨r, hr, rfl⟩ := List.mem_map.mp hg
      obtain ⟨k, hk, hh, row, hb, hrow⟩ := h r hr
      have both : ∀ x ∈ r.group, decide (x ∈ (tabs.map (·.1)).take (lost + 1)) = decide (k ≤ lost) := fun x hx => by
        unfold Rule.group at hx
        rw [hb] at hx
        rcases List.mem_append.mp hx with hx | hx
        · have e : x = row.t := by
            obtain ⟨a, ha, rfl⟩ := List.mem_map.mp hx
            rw [List.mem_singleton.mp ha]
          rw [e]
          exact decide_eq_decide.mpr (inT k _ hrow)
        · rw [List.mem_singleton.mp hx]
          exact decide_eq_decide.mpr ((inT (k + 1) _ hh).trans (by omega))
      intro x hx y hy
      show decide _ = decide _
      rw [both x hx, both y hy]
    · cases hg
theorem bare_parts {tb : Str × Int} {known : DL.W} : outL ⟨[tb], known, .tup [], [], .tup [], []⟩ = [[tb.1]] := by
  unfold outL
  have hc : classes [tb.1] (labF ⟨[tb], known, .tup [], [], .tup [], []⟩) = [[tb.1].mergeSort strLe] := by
    refine classes_one (List.cons_ne_nil _ _) fun x hx y hy => ?_
    rw [List.mem_singleton.mp hx, List.mem_singleton.mp hy]
  show (classes [tb.1] _).mergeSort tupLe = _
  rw [hc, List.mergeSort_singleton, List.mergeSort_singleton]
end K09

namespace K09
open PySem PySem.Spec PyProof.Rows L2 TL DL
local macro_rules | `(tactic| walk_at "dl") => `(tactic| try simp (config := { decide := false }) only [e_seq, e_asg, e_nm, e_op, e_un, e_cb, e_c, e_var, e_ifs, e_tru, e_B, e_drop, e_bm, e_bm0, e_ret, e_retN, e_next, e_break, e_cont, e_nil, e_cons, e_tup, e_lst, e_sl, e_onone, e_osome, e_gsub, e_call, e_callk, e_and, e_or, e_not, e_andv, e_orv, e_notv, e_notU, e_isI, e_isS, e_isT, e_isR, e_isN, e_if, e_par, e_for, e_comp, e_iseq, e_rng1, e_yes, e_gtp, e_gc, e_gn0,
  e_addI, e_addS, e_addT, e_addL, e_i20, e_i2, e_neg, e_cmpI, e_cmpS, e_eqI, e_eqS, e_eqB, e_ixT, e_ixLit, e_ixL, e_ixS, e_set, e_ixAT, e_ixALit, e_ixAL, e_ixAS, e_ixAD, e_setAL, e_setAD, e_dict0, e_inAL, e_inAT, e_inAD, e_inAS, e_listAT, e_listALit, e_listAL, e_listAD, e_max2, e_extend, e_isalpha, e_enum, keyW, sz0, sz1, sz2, sz3, sz4, sz5, sz6, O.dk.injEq, e_slT, e_slLit, e_slS, e_slL, e_lenAS, e_lenAT, e_lenALit, e_lenAL, e_lenAD, e_lenS, e_lenT, e_lenLit, e_lenL, e_i1, e_intI, e_intB, e_strI, e_strS, e_listT, e_listLit, e_listL, e_tupleT, e_tupleL, e_append, e_pop0, e_tyL, e_tyS, e_truL, e_truT, e_truB, e_truI, e_truS, e_truN, e_seqT, e_seqLit, e_seqL, e_in, e_inT, e_isi, kit_ll, kit_ss, tyW_L, tyW_S, tyW_T, tyW_I, tyW_B, cut_to1, cut_to2, cut_from1, wipeW_nil, wipeW_cons, Nat.reduceAdd, eq_self, List.map_cons, List.map_nil,
  atI_0, atI_1, atI_2, atI_3, atI_4, atI_5, atI_end, ixN_0, ixN_1, ixN_11, ixN_last, List.map_append, List.map_cons, List.map_nil, get_app, get_app0, set_app, set_app0, List.cons_append, List.nil_append, List.append_assoc, List.length_append, List.length_cons, List.length_nil, Nat.zero_add, List.length_map, List.length_set,
  List.getElem?_cons_zero, List.getElem?_cons_succ, List.set_cons_zero, List.set_cons_succ, Option.some.injEq, exists_eq_left', exists_eq_left, exists_and_left, W.int.injEq, W.bl.injEq, W.str.injEq, W.tup.injEq, W.ref.injEq, O.lst.injEq, List.cons.injEq, reduceCtorEq, false_and, exists_false, or_false, false_or, true_and, and_true, decide_eq_true_eq, Bool.false_xor, Bool.true_xor, Bool.not_eq_true', decide_eq_false_iff_not, List.isEmpty_cons, List.isEmpty_nil, Bool.not_true, Bool.not_false, if_true, if_false, not_true_eq_false, not_false_eq_true, ne_eq, Bool.false_eq_true, reduceIte])



/-! ### _law_asks -/
theorem plain_ints {n : Nat} {ns : List Nat} (h : ns.length ≤ 1000) : plain (n + 1 + 1) (.tup (ns.map natE)) = true := by
  show (decide ((ns.map natE).length ≤ 1000) && (ns.map natE).all (plain (n + 1))) = true
  rw [Bool.and_eq_true]
  refine ⟨decide_eq_true (by rw [List.length_map]; exact h), List.all_eq_true.mpr fun w hw => ?_⟩
  obtain ⟨i, _, rfl⟩ := List.mem_map.mp hw
  rfl
theorem plain_tupS {n : Nat} {ss : List Str} (h : ss.length ≤ 1000) : plain (n + 1 + 1) (tupS ss) = true := by
  show (decide ((ss.map W.str).length ≤ 1000) && (ss.map W.str).all (plain (n + 1))) = true
  rw [Bool.and_eq_true]
  refine ⟨decide_eq_true (by rw [List.length_map]; exact h), List.all_eq_true.mpr fun w hw => ?_⟩
  obtain ⟨i, _, rfl⟩ := List.mem_map.mp hw
  rfl
theorem plain_parts {n : Nat} {P : List (List Str)} (h : P.length ≤ 1000) (h2 : ∀ p ∈ P, p.length ≤ 1000) : plain (n + 1 + 1 + 1) (.tup (P.map tupS)) = true := by
  show (decide ((P.map tupS).length ≤ 1000) && (P.map tupS).all (plain (n + 1 + 1))) = true
  rw [Bool.and_eq_true]
  refine ⟨decide_eq_true (by rw [List.length_map]; exact h), List.all_eq_true.mpr fun w hw => ?_⟩
  obtain ⟨i, hi, rfl⟩ := List.mem_map.mp hw
  exact plain_tupS (h2 i hi)
theorem outL_len {h : House} (ok : OkHouse h) : (outL h).length ≤ 50 ∧ ∀ p ∈ outL h, p.length ≤ 50 := by
  have hn : h.names.length ≤ 50 := by rw [List.length_map]; exact ok.nt
  constructor
  · unfold outL classes
    rw [List.length_mergeSort]
    have t1 := addL_len (h.names.map (classOf h.names (labF h))) []
    have t2 : (h.names.map (classOf h.names (labF h))).length = h.names.length := List.length_map ..
    have t3 : ([] : List (List Str)).length = 0 := rfl
    omega
  · intro p hp
    have hp2 := List.mem_mergeSort.mp hp
    rcases ((foldL (h.names.map (classOf h.names (labF h))) [] List.nodup_nil).2 p).mp hp2 with e | e
    · cases e
    · obtain ⟨t, _, rfl⟩ := List.mem_map.mp e
      unfold classOf
      rw [List.length_mergeSort]
      exact Nat.le_trans (List.length_filter_le ..) hn
theorem into_len {rules : List Rule} {t : Str} : (intoN rules t).length ≤ rules.length := by
  have := List.length_filter_le (isInto rules t) (List.range rules.length)
  rw [List.length_range] at this
  exact this
def F_asks : DSpec := fun ws S Q => ∃ st R, ∃ h : House, ws = [.ref 1, House.enc h] ∧ S = B st R ∧ Good st ∧ OkHouse h ∧ ∀ st', Good st' → Q (.bl true) (B st' R)
def askName : DS :=
(dSeq (dAsg (dCB vTuple (aCons (dComp (iRng1 (aCons (dCB vLenA (aCons (dOp vIxA (dVar 1) (dC (.int 3))) aNil)) aNil)) (gNm 8) (dB (dOp vEq (dOp vIxA (dOp vIxA (dOp vIxA (dOp vIxA (dVar 1) (dC (.int 3))) (dVar 8)) (dC (.int 1))) (dC (.int 0))) (dVar 4))) (dVar 8) [8]) aNil)) (gNm 6))
(dIfS (dOrT (dNotT (dTru (dCall (F_same 12) (aCons (dVar 6) (aCons (dCall F_into (aCons (dVar 1) (aCons (dVar 4) aNil))) aNil))))) (dNotT (dTru (dCall (F_same 12) (aCons (dOp vIxA (dVar 2) (dVar 4)) (aCons (dCall F_level (aCons (dVar 1) (aCons (dVar 4) aNil))) aNil))))))
(dRet (dC (.bl false)))
dNext))
theorem ask_names {D : DEnds} {st : Dr} {R G : Sto} {h : House} {tbs : List (Str × Int)} {x3 x4 x5 x6 x7 x8 : Option DL.W} (g : Good st) (ok : OkHouse h) (ht : ∀ tb ∈ tbs, tb ∈ h.tabs)
    (fin : ∀ st G x4 x5 x6 x8, Good st → D.nx [some (.ref 1), some (House.enc h), some (.ref (R.length + 1 + 1)), x3, x4, x5, x6, x7, x8] (B st (R ++ dkF h.names (levF h.rules h.names) :: G))) :
    forW (gTp 2 (gC (gNm 4) (gC (gNm 5) gN0))) askName (fun _ => True) (tbs.map tabE) D [some (.ref 1), some (House.enc h), some (.ref (R.length + 1 + 1)), x3, x4, x5, x6, x7, x8] (B st (R ++ dkF h.names (levF h.rules h.names) :: G)) := by
  have hx3 : ∀ {S : Sto} {Q : WK}, vIxA (House.enc h) (.int 3) S Q = Q (.tup (h.rules.map Rule.enc)) S := e_ixAT rfl
  have hnr := ok.nr
  refine forW_inv (fun i env S' => ∃ st G x4 x5 x6 x8, S' = B st (R ++ dkF h.names (levF h.rules h.names) :: G) ∧ Good st ∧ env = [some (.ref 1), some (House.enc h), some (.ref (R.length + 1 + 1)), x3, x4, x5, x6, x7, x8]) ⟨st, G, _, _, _, _, rfl, g, rfl⟩ ?_ ?_
  · rintro i x env S' hx ⟨st2, G, x4, x5, x6, x8, rfl, g2, rfl⟩ N hN
    obtain ⟨tb, htb, rfl, htm, hi⟩ := map_get hx
    have htn : tb.1 ∈ h.names := List.mem_map.mpr ⟨tb, ht tb htm, rfl⟩
    refine ⟨trivial, ?_⟩
    unfold tabE askName
    walk_at "dl"
    rw [hx3]
    walk_at "dl"
    refine ⟨by omega, by omega, ?_⟩
    refine compW_inv (fun k acc S2 => S2 = B st2 (R ++ dkF h.names (levF h.rules h.names) :: G) ∧ acc = ((List.range k).filter (isInto h.rules tb.1)).map natE) ⟨rfl, rfl⟩ ?_ ?_
    · rintro k x acc S2 hx2 ⟨rfl, rfl⟩ N2 hN2
      obtain ⟨hk, rfl⟩ := rng_get hx2
      refine ⟨trivial, ?_⟩
      have hkl : k < h.rules.length := by omega
      have hr := List.getElem?_eq_getElem hkl
      walk_at "dl"
      rw [hx3, e_ixAT (atI_nat (j := k) (v := Rule.enc h.rules[k]) (by rw [List.getElem?_map, hr]; rfl))]
      generalize hrr : h.rules[k] = r at hr
      have hr1 : ∀ {S : Sto} {Q : WK}, vIxA (Rule.enc r) (.int 1) S Q = Q (Row.enc r.head) S := e_ixAT rfl
      have hr2 : ∀ {S : Sto} {Q : WK}, vIxA (Row.enc r.head) (.int 0) S Q = Q (.str r.head.t) S := e_ixAT rfl
      rw [hr1, hr2]
      walk_at "dl"
      have hs : (List.range (k + 1)).filter (isInto h.rules tb.1) = (List.range k).filter (isInto h.rules tb.1) ++ (if r.head.t = tb.1 then [k] else []) := by
        rw [List.range_succ, List.filter_append]
        congr 1
        have e : isInto h.rules tb.1 k = decide (r.head.t = tb.1) := by
          unfold isInto
          rw [hr]
        by_cases ht : r.head.t = tb.1
        · simp [e, ht]
        · simp [e, ht]
      split
      · rename_i hh
        have hfl := List.length_filter_le (isInto h.rules tb.1) (List.range k)
        rw [List.length_range] at hfl
        refine ⟨lt_sz (by omega), hN2 _ _ ⟨rfl, ?_⟩⟩
        rw [hs, if_pos hh, List.map_append]
        rfl
      · rename_i hh
        refine hN2 _ _ ⟨rfl, ?_⟩
        rw [hs, if_neg hh, List.append_nil]
    · rintro acc S2 ⟨rfl, rfl⟩
      rw [rng_len]
      refine ⟨trivial, ?_⟩
      walk_at "dl"
      refine ⟨h, tb.1, rfl, hnr, same_ok rfl (plain_ints (Nat.le_trans into_len (by omega))) ?_⟩
      walk_at "dl"
      have hD : ∀ G' : Sto, (B st2 (R ++ dkF h.names (levF h.rules h.names) :: G'))[R.length + 1 + 1]? = some (dkF h.names (levF h.rules h.names)) := fun G' => get_app0
      rw [e_ixAD (hD _) rfl (dkF_val htn)]
      refine ⟨h, tb.1, rfl, ok, htn, same_ok rfl rfl ?_⟩
      walk_at "dl"
      exact hN _ _ ⟨st2, _, _, _, _, _, rfl, g2, rfl⟩
  · rintro env S' ⟨st2, G, x4, x5, x6, x8, rfl, g2, rfl⟩
    exact ⟨trivial, fin _ _ _ _ _ _ g2⟩
theorem vc_asks : ∀ ws S Q, Closed S → F_asks ws S Q → d_law_asks F_llevels F_shuf (F_same 12) F_into F_level F_parts F_lparts F_open F_lopen (endsW S.length Q) (startW N_law_asks.length ws) S := by
  rintro ws S Q cl ⟨st, R, h, rfl, rfl, g, ok, q⟩
  show d_law_asks F_llevels F_shuf (F_same 12) F_into F_level F_parts F_lparts F_open F_lopen _ [some (.ref 1), some (House.enc h), none, none, none, none, none, none, none] _
  unfold d_law_asks
  have hx0 : ∀ {S : Sto} {Q : WK}, vIxA (House.enc h) (.int 0) S Q = Q (.tup (h.tabs.map tabE)) S := e_ixAT rfl
  have hx3 : ∀ {S : Sto} {Q : WK}, vIxA (House.enc h) (.int 3) S Q = Q (.tup (h.rules.map Rule.enc)) S := e_ixAT rfl
  have hnt := ok.nt
  walk_at "dl"
  refine ⟨h, rfl, ok, ?_⟩
  walk_at "dl"
  refine ⟨by decide, by decide, ?_⟩
  refine forW_inv (fun i env S' => ∃ st G x3 x4 x5 x6 x7 x8, S' = B st (R ++ dkF h.names (levF h.rules h.names) :: G) ∧ Good st ∧ env = [some (.ref 1), some (House.enc h), some (.ref (R.length + 1 + 1)), x3, x4, x5, x6, x7, x8]) ⟨st, [], _, _, _, _, _, _, rfl, g, rfl⟩ ?_ ?_
  · rintro i x env S' hx ⟨st2, G, x3, x4, x5, x6, x7, x8, rfl, g2, rfl⟩ N hN
    obtain ⟨hi, rfl⟩ := rng_get hx
    refine ⟨trivial, ?_⟩
    have rest : ∀ (D0 : Slots → Sto → Prop) (st : Dr) (G : Sto) (tbs : List (Str × Int)), Good st → (∀ tb ∈ tbs, tb ∈ h.tabs) →
        forW (gTp 2 (gC (gNm 4) (gC (gNm 5) gN0))) askName (fun _ => True) (tbs.map tabE) { nx := dIfS (dNotT (dTru (dCall (F_same 12) (aCons (dCall F_lparts (aCons (dVar 1) aNil)) (aCons (dCall F_parts (aCons (dVar 1) aNil)) aNil))))) (dRet (dC (.bl false))) dNext { nx := N, rt := Ends0 (R.length + 1 + 1) Q, bk := D0, ct := N }, rt := Ends0 (R.length + 1 + 1) Q, bk := D0, ct := N }
          [some (.ref 1), some (House.enc h), some (.ref (R.length + 1 + 1)), some (.int (i : Int)), x4, x5, x6, x7, x8] (B st (R ++ dkF h.names (levF h.rules h.names) :: G)) := by
      intro D0 st G tbs g ht
      refine ask_names g ok ht fun st G x4 x5 x6 x8 g => ?_
      walk_at "dl"
      refine ⟨h, rfl, ok, ⟨h, rfl, ok, same_ok (by rw [out_eq ok]) (plain_parts (by have := (outL_len ok).1; omega) (fun p hp => by have := (outL_len ok).2 p hp; omega)) ?_⟩⟩
      walk_at "dl"
      exact hN _ _ ⟨st, G, _, _, _, _, _, _, rfl, g, rfl⟩
    walk_at "dl"
    split
    · rw [hx0]
      exact rest _ st2 G h.tabs g2 fun tb h => h
    · rw [hx0]
      refine shuf_ok (R := R ++ dkF h.names (levF h.rules h.names) :: G) g2 (.inl rfl) (pureL_of fun w hw => by
        obtain ⟨x, _, rfl⟩ := List.mem_map.mp hw
        rfl) (by rw [List.length_map]; omega) fun st3 vs g3 hp => ?_
      obtain ⟨tbs, hp2, rfl⟩ := perm_map_ex hp h.tabs rfl
      rw [e_tupleL get_app0, List.append_assoc]
      exact rest _ st3 _ tbs g3 fun tb h => hp2.mem_iff.mp h
  · rintro env S' ⟨st2, G, x3, x4, x5, x6, x7, x8, rfl, g2, rfl⟩
    refine ⟨trivial, ?_⟩
    walk_at "dl"
    rw [hx3]
    walk_at "dl"
    refine forW_inv (fun i env S' => ∃ G x7, S' = B st2 (R ++ G) ∧ env = [some (.ref 1), some (House.enc h), some (.ref (R.length + 1 + 1)), x3, x4, x5, x6, x7, x8]) ⟨_, _, rfl, rfl⟩ ?_ ?_
    · rintro i x env S' hx ⟨G, x7, rfl, rfl⟩ N hN
      obtain ⟨r, hr, rfl, hrm, hi⟩ := map_get hx
      have okr := (ok.rules r hrm).1
      refine ⟨trivial, ?_⟩
      walk_at "dl"
      refine ⟨r, rfl, okr, ?_⟩
      walk_at "dl"
      refine ⟨r, rfl, okr, same_ok rfl (plain_tupS (Nat.le_trans (List.length_filter_le ..) (marks_len _ okr.h))) ?_⟩
      walk_at "dl"
      exact hN _ _ ⟨_, _, rfl, rfl⟩
    · rintro env S' ⟨G, x7, rfl, rfl⟩
      refine ⟨trivial, ?_⟩
      walk_at "dl"
      exact endBT _ cl rfl (q st2 g2)

end K09

namespace K09
open PySem PySem.Spec PyProof.Rows L2 TL DL
local macro_rules | `(tactic| walk_at "dl") => `(tactic| try simp (config := { decide := false }) only [e_seq, e_asg, e_nm, e_op, e_un, e_cb, e_c, e_var, e_ifs, e_tru, e_B, e_drop, e_bm, e_bm0, e_ret, e_retN, e_next, e_break, e_cont, e_nil, e_cons, e_tup, e_lst, e_sl, e_onone, e_osome, e_gsub, e_call, e_callk, e_and, e_or, e_not, e_andv, e_orv, e_notv, e_notU, e_isI, e_isS, e_isT, e_isR, e_isN, e_if, e_par, e_for, e_comp, e_iseq, e_rng1, e_yes, e_gtp, e_gc, e_gn0,
  e_addI, e_addS, e_addT, e_addL, e_i20, e_i2, e_neg, e_cmpI, e_cmpS, e_eqI, e_eqS, e_eqB, e_ixT, e_ixLit, e_ixL, e_ixS, e_set, e_ixAT, e_ixALit, e_ixAL, e_ixAS, e_ixAD, e_setAL, e_setAD, e_dict0, e_inAL, e_inAT, e_inAD, e_inAS, e_listAT, e_listALit, e_listAL, e_listAD, e_max2, e_extend, e_isalpha, e_enum, keyW, sz0, sz1, sz2, sz3, sz4, sz5, sz6, O.dk.injEq, e_slT, e_slLit, e_slS, e_slL, e_lenAS, e_lenAT, e_lenALit, e_lenAL, e_lenAD, e_lenS, e_lenT, e_lenLit, e_lenL, e_i1, e_intI, e_intB, e_strI, e_strS, e_listT, e_listLit, e_listL, e_tupleT, e_tupleL, e_append, e_pop0, e_tyL, e_tyS, e_truL, e_truT, e_truB, e_truI, e_truS, e_truN, e_seqT, e_seqLit, e_seqL, e_in, e_inT, e_isi, kit_ll, kit_ss, tyW_L, tyW_S, tyW_T, tyW_I, tyW_B, cut_to1, cut_to2, cut_from1, wipeW_nil, wipeW_cons, Nat.reduceAdd, eq_self, List.map_cons, List.map_nil,
  atI_0, atI_1, atI_2, atI_3, atI_4, atI_5, atI_end, ixN_0, ixN_1, ixN_11, ixN_last, List.map_append, List.map_cons, List.map_nil, get_app, get_app0, set_app, set_app0, List.cons_append, List.nil_append, List.append_assoc, List.length_append, List.length_cons, List.length_nil, Nat.zero_add, List.length_map, List.length_set,
  List.getElem?_cons_zero, List.getElem?_cons_succ, List.set_cons_zero, List.set_cons_succ, Option.some.injEq, exists_eq_left', exists_eq_left, exists_and_left, W.int.injEq, W.bl.injEq, W.str.injEq, W.tup.injEq, W.ref.injEq, O.lst.injEq, List.cons.injEq, reduceCtorEq, false_and, exists_false, or_false, false_or, true_and, and_true, decide_eq_true_eq, Bool.false_xor, Bool.true_xor, Bool.not_eq_true', decide_eq_false_iff_not, List.isEmpty_cons, List.isEmpty_nil, Bool.not_true, Bool.not_false, if_true, if_false, not_true_eq_false, not_false_eq_true, ne_eq, Bool.false_eq_true, reduceIte])



/-! ### law -/
def linkP (x : Str) (r : Rule) : Bool := decide (r.body.length = 1) && decide (r.head.t ≠ x)
theorem lad_r {names : List Str} {tabs : List (Str × Int)} {rules rules2 : List Rule} (h : Lad names tabs rules) (hp : rules2.Perm rules) : LadR names rules2 :=
  ⟨h.nd, fun r hr => h.ins r (hp.mem_iff.mp hr), fun k hk => by
    obtain ⟨r, h1, h2, h3⟩ := h.chain k hk
    exact ⟨r, hp.mem_iff.mpr (List.mem_of_getElem? h1), h2, h3⟩⟩
theorem lad_links {names : List Str} {tabs : List (Str × Int)} {rules : List Rule} {lost : Nat} {x : Str} (h : Lad names tabs rules) (hx : names[lost + 1]? = some x) {r : Rule} (hr : r ∈ (rules.take (names.length - 1)).filter (linkP x)) :
    ∃ k, k ≠ lost ∧ names[k + 1]? = some r.head.t ∧ ∃ row, r.body = [row] ∧ names[k]? = some row.t := by
  obtain ⟨h1, h2⟩ := List.mem_filter.mp hr
  unfold linkP at h2
  rw [Bool.and_eq_true, decide_eq_true_eq, decide_eq_true_eq] at h2
  obtain ⟨k, hk⟩ := List.mem_iff_getElem?.mp h1
  have hk1 := (List.getElem?_eq_some_iff.mp hk).1
  rw [List.length_take] at hk1
  rw [List.getElem?_take_of_lt (by omega)] at hk
  obtain ⟨r2, h3, h4, row, h5, h6⟩ := h.chain k (by omega)
  have e : r2 = r := Option.some.inj (h3.symm.trans hk)
  subst e
  refine ⟨k, fun e => ?_, h4, ?_⟩
  · subst e
    exact h2.2 (Option.some.inj (h4.symm.trans hx))
  · match hb : r2.body, h2.1, h5 with
    | [row2], _, h5 =>
      refine ⟨row2, rfl, ?_⟩
      rw [← List.mem_singleton.mp h5]
      exact h6
theorem sliceL_ok {S : Sto} {Q : WK} {i : Nat} {ws : List DL.W} {n : Int} (h : S[i]? = some (.lst ws)) (h0 : 0 ≤ n) (q : Q (.ref S.length) (S ++ [.lst (ws.take n.toNat)])) : vSl (.ref i) none (some n) S Q := by
  rw [e_slL h]
  have e : cutW ws none (some n) = ws.take n.toNat := by
    have e2 : n = ((n.toNat : Nat) : Int) := by omega
    rw [e2, cut_to]
    congr 1
  rw [e]
  exact q
abbrev LH (tabs : List (Str × Int)) (known : DL.W) (rules : List Rule) : House := ⟨tabs, known, .tup [], rules, .tup [], []⟩
def F_law : DSpec := fun ws S Q => ∃ ns : List Int, ws = [.lit (ns.map W.int)] ∧ S = [] ∧ ns.length ≤ 63 ∧ ∀ S', Q (.bl true) S'
theorem vc_law : ∀ ws S Q, Closed S → F_law ws S Q → d_law F_pool F_ladder F_shuf (F_same 12) F_level F_parts F_asks F_pick F_house (endsW S.length Q) (startW N_law.length ws) S := by
  rintro ws S Q cl ⟨ns, rfl, rfl, hl, q⟩
  show d_law F_pool F_ladder F_shuf (F_same 12) F_level F_parts F_asks F_pick F_house _ [some _, none, none, none, none, none, none, none, none, none, none, none, none] _
  unfold d_law
  walk_at "dl"
  refine ⟨ns, rfl, rfl, hl, fun st g => ?_⟩
  walk_at "dl"
  refine ⟨st, [], rfl, rfl, g, fun st names tabs rules g lad => ?_⟩
  walk_at "dl"
  have hpure : W.pureL (rules.map Rule.enc) = true := pureL_of fun w hw => by
    obtain ⟨x, _, rfl⟩ := List.mem_map.mp hw
    exact rule_pure x
  have hlen := lad.len
  refine shuf_ok (R := [.lst (rules.map Rule.enc), stro names]) g (.inr ⟨0, rfl, rfl⟩) hpure (by rw [List.length_map]; omega) fun st vs g hp => ?_
  obtain ⟨rules2, hp2, rfl⟩ := perm_map_ex hp rules rfl
  have lr := lad_r lad hp2
  have ok0 : OkHouse (LH tabs (.tup []) rules2) := okh_rules lad.nd lad.okn (by have := lad.hi; omega) lad.ts (by rw [hp2.length_eq]; omega) fun r h => lr.ins r h
  have hN : ∀ (st : Dr) (G : Sto), (B st (.lst (rules.map Rule.enc) :: stro names :: G))[3]? = some (stro names) := fun _ _ => rfl
  have hR : ∀ (st : Dr) (G : Sto), (B st (.lst (rules.map Rule.enc) :: stro names :: G))[2]? = some (.lst (rules.map Rule.enc)) := fun _ _ => rfl
  have eN : (LH tabs (.tup []) rules2).names = names := lad.ts
  rw [e_tupleL get_app0]
  show vLenA [W.ref 3] (B st (.lst (rules.map Rule.enc) :: stro names :: [O.lst (List.map Rule.enc rules2)])) _
  rw [e_lenAL (hN st _), List.length_map]
  have hlo := lad.lo
  have hhi := lad.hi
  refine ⟨_, rfl, by omega, by omega, ?_⟩
  refine forW_inv (fun i env S' => ∃ x6, S' = B st (.lst (rules.map Rule.enc) :: stro names :: [O.lst (List.map Rule.enc rules2)]) ∧ env = [some (.lit (ns.map W.int)), some (.ref 1), some (.tup (tabs.map tabE)), some (.ref 2), some (.ref 3), some (LH tabs (.tup []) rules2).enc, x6, none, none, none, none, none, none]) ⟨_, rfl, rfl⟩ ?_ ?_
  · rintro i x env S' hx ⟨x6, rfl, rfl⟩ N hN2
    obtain ⟨hi, rfl⟩ := rng_get hx
    refine ⟨trivial, ?_⟩
    have hil : i < names.length := by omega
    have hni := List.getElem?_eq_getElem hil
    walk_at "dl"
    rw [e_ixAL (hN st _) (atI_nat (j := i) (v := W.str names[i]) (by rw [List.getElem?_map, hni]; rfl))]
    refine ⟨LH tabs (.tup []) rules2, names[i], rfl, ok0, by rw [eN]; exact List.getElem_mem hil, same_ok (by rw [eN, lev_at lr hni]) rfl ?_⟩
    walk_at "dl"
    exact hN2 _ _ ⟨_, rfl, rfl⟩
  · rintro env S' ⟨x6, rfl, rfl⟩
    refine ⟨trivial, ?_⟩
    walk_at "dl"
    refine sorted_strs_ok (hN st _) ?_
    rw [e_tupleL get_app0]
    have hne : names ≠ [] := fun e => by rw [e] at hlo; cases hlo
    refine ⟨LH tabs (.tup []) rules2, rfl, ok0, same_ok (by rw [out_eq ok0, lad_parts hne lr lad.ts]; rfl) (plain_parts (P := [names.mergeSort strLe]) (Nat.le_add_left 1 999) (fun p hp => by rw [List.mem_singleton.mp hp, List.length_mergeSort]; omega)) ?_⟩
    walk_at "dl"
    refine ⟨st, _, LH tabs (.tup []) rules2, rfl, rfl, g, ok0, fun st g => ?_⟩
    generalize O.lst (List.map Rule.enc rules2) :: [stro (names.mergeSort strLe)] = G
    walk_at "dl"
    refine pick_ok (R := .lst (rules.map Rule.enc) :: stro names :: G) g (by omega) (by omega) fun st lostI g l0 l1 => ?_
    obtain ⟨lost, rfl⟩ : ∃ l : Nat, lostI = (l : Int) := ⟨lostI.toNat, by omega⟩
    have hlost : lost + 1 < names.length := by omega
    have hx := List.getElem?_eq_getElem hlost
    generalize hxx : names[lost + 1] = xl at hx
    have hxa : atI (names.map W.str) ((lost : Int) + 1) = some (.str xl) := atI_nat (j := lost + 1) (v := W.str xl) (by rw [List.getElem?_map, hx]; rfl)
    rw [e_lenAL (hN st _), List.length_map]
    walk_at "dl"
    have ecut : cutW (rules.map Rule.enc) none (some ((names.length : Int) - 1)) = (rules.take (names.length - 1)).map Rule.enc := by
      have e2 : (names.length : Int) - 1 = ((names.length - 1 : Nat) : Int) := by omega
      rw [e2, cut_to, List.map_take]
    rw [ecut]
    have hlk := fun r => @lad_links names tabs rules lost xl lad hx r
    have hin : ∀ r ∈ rules.take (names.length - 1), RuleIn names r := fun r h => lad.ins r (List.mem_of_mem_take h)
    have hrl : (rules.take (names.length - 1)).length ≤ 20 := by rw [List.length_take]; omega
    generalize rules.take (names.length - 1) = rs at hlk hin hrl
    show compW _ _ _ _ _ _ _ _ _ (B st (.lst (rules.map Rule.enc) :: stro names :: (G ++ [.lst (rs.map Rule.enc)])))
    have hRs : ∀ (st : Dr), (B st (.lst (rules.map Rule.enc) :: stro names :: (G ++ [.lst (rs.map Rule.enc)])))[G.length + 1 + 1 + 1 + 1]? = some (.lst (rs.map Rule.enc)) := fun st => get_app0
    generalize hG2 : G ++ [.lst (rs.map Rule.enc)] = G2 at hRs
    refine compW_inv (fun i acc S2 => S2 = B st (.lst (rules.map Rule.enc) :: stro names :: G2) ∧ acc = ((rs.take i).filter (linkP xl)).map Rule.enc) ⟨rfl, rfl⟩ ?_ ?_
    · rintro i x acc S2 hxi ⟨rfl, rfl⟩ N hN2
      obtain ⟨r, hr, rfl, hrm, hi⟩ := map_get hxi
      refine ⟨hRs st, ?_⟩
      have hr0 : ∀ {S : Sto} {Q : WK}, vIxA (Rule.enc r) (.int 0) S Q = Q (.tup (r.body.map Row.enc)) S := e_ixAT rfl
      have hr1 : ∀ {S : Sto} {Q : WK}, vIxA (Rule.enc r) (.int 1) S Q = Q (Row.enc r.head) S := e_ixAT rfl
      have hr2 : ∀ {S : Sto} {Q : WK}, vIxA (Row.enc r.head) (.int 0) S Q = Q (.str r.head.t) S := e_ixAT rfl
      have hs : (rs.take (i + 1)).filter (linkP xl) = (rs.take i).filter (linkP xl) ++ (if linkP xl r = true then [r] else []) := by
        rw [List.take_add_one, hr, List.filter_append]
        congr 1
        show List.filter (linkP xl) [r] = _
        rw [List.filter_cons]
        rfl
      walk_at "dl"
      rw [hr0]
      walk_at "dl"
      have hfl := List.length_filter_le (linkP xl) (rs.take i)
      rw [List.length_take] at hfl
      split
      · rename_i hb
        rw [hr1, hr2, e_ixAL (hN st _) hxa]
        walk_at "dl"
        split
        · rename_i hh
          have e : linkP xl r = true := by
            unfold linkP
            rw [decide_eq_true (by omega), decide_eq_true hh]
            rfl
          refine ⟨lt_sz (by omega), hN2 _ _ ⟨rfl, ?_⟩⟩
          rw [hs, if_pos e, List.map_append]
          rfl
        · rename_i hh
          have e : ¬ linkP xl r = true := fun e => by
            unfold linkP at e
            rw [Bool.and_eq_true, decide_eq_true_eq, decide_eq_true_eq] at e
            exact hh e.2
          refine hN2 _ _ ⟨rfl, ?_⟩
          rw [hs, if_neg e, List.append_nil]
      · rename_i hb
        have e : ¬ linkP xl r = true := fun e => by
          unfold linkP at e
          rw [Bool.and_eq_true, decide_eq_true_eq, decide_eq_true_eq] at e
          omega
        refine hN2 _ _ ⟨rfl, ?_⟩
        rw [hs, if_neg e, List.append_nil]
    · rintro acc S2 ⟨rfl, rfl⟩
      rw [List.length_map, List.take_length]
      refine ⟨hRs st, ?_⟩
      walk_at "dl"
      have hfl := List.length_filter_le (linkP xl) rs
      have hfm : ∀ r ∈ rs.filter (linkP xl), RuleIn names r ∧ r.head.t ≠ xl := fun r h => by
        obtain ⟨h1, h2⟩ := List.mem_filter.mp h
        unfold linkP at h2
        rw [Bool.and_eq_true, decide_eq_true_eq, decide_eq_true_eq] at h2
        exact ⟨hin r h1, h2.2⟩
      generalize rs.filter (linkP xl) = ls at hfl hfm hlk
      refine shuf_ok (R := .lst (rules.map Rule.enc) :: stro names :: (G2 ++ [.lst (ls.map Rule.enc)])) g (.inr ⟨G2.length + 1 + 1, rfl, get_app0 (R := .lst (rules.map Rule.enc) :: stro names :: G2)⟩) (pureL_of fun w hw => by
        obtain ⟨x, _, rfl⟩ := List.mem_map.mp hw
        exact rule_pure x) (by rw [List.length_map]; omega) fun st vs g hp => ?_
      obtain ⟨rules3, hp3, rfl⟩ := perm_map_ex hp ls rfl
      rw [e_tupleL get_app0]
      show F_asks _ (B st (.lst (rules.map Rule.enc) :: stro names :: ((G2 ++ [.lst (ls.map Rule.enc)]) ++ [.lst (rules3.map Rule.enc)]))) _
      generalize (G2 ++ [.lst (ls.map Rule.enc)]) ++ [.lst (rules3.map Rule.enc)] = G3
      have ok1 : OkHouse (LH tabs (.tup [.int 3, .int 7]) rules3) := okh_rules lad.nd lad.okn (by omega) lad.ts (by rw [hp3.length_eq]; omega) fun r h => (hfm r (hp3.mem_iff.mp h)).1
      refine ⟨st, _, LH tabs (.tup [.int 3, .int 7]) rules3, rfl, rfl, g, ok1, fun st g => ?_⟩
      walk_at "dl"
      rw [e_ixAL (hN st _) hxa]
      have eN1 : (LH tabs (.tup [.int 3, .int 7]) rules3).names = names := lad.ts
      refine ⟨LH tabs (.tup [.int 3, .int 7]) rules3, xl, rfl, ok1, by rw [eN1]; exact List.mem_of_getElem? hx, same_ok (by rw [lev_none fun r h => (hfm r (hp3.mem_iff.mp h)).2]) rfl ?_⟩
      walk_at "dl"
      refine ⟨LH tabs (.tup [.int 3, .int 7]) rules3, rfl, ok1, ?_⟩
      have h2 : 2 ≤ (outP (LH tabs (.tup [.int 3, .int 7]) rules3)).length := by
        rw [out_eq ok1]
        exact apart_parts ok1 lad.ts hlost fun r h => hlk r (hp3.mem_iff.mp h)
      walk_at "dl"
      rw [if_neg (by omega)]
      refine ⟨by decide, by decide, ?_⟩
      refine forW_inv (fun i env S' => ∃ st x10, S' = B st (.lst (rules.map Rule.enc) :: stro names :: G3) ∧ Good st ∧ env = [some (.lit (ns.map W.int)), some (.ref 1), some (.tup (tabs.map tabE)), some (.ref 2), some (.ref 3), some (LH tabs (.tup []) rules2).enc, x6, some (.int (lost : Int)), some (.ref (G2.length + 1 + 1 + 1 + 1)), some (LH tabs (.tup [.int 3, .int 7]) rules3).enc, x10, none, none]) ⟨st, _, rfl, g, rfl⟩ ?_ ?_
      · rintro i x env S' hxi ⟨st, x10, rfl, g, rfl⟩ N hN2
        obtain ⟨hi, rfl⟩ := rng_get hxi
        refine ⟨trivial, ?_⟩
        walk_at "dl"
        refine house_ok (R := .lst (rules.map Rule.enc) :: stro names :: G3) g fun st h g okh => ?_
        refine ⟨st, _, h, rfl, rfl, g, okh, fun st g => ?_⟩
        walk_at "dl"
        exact hN2 _ _ ⟨st, _, rfl, g, rfl⟩
      · rintro env S' ⟨st, x10, rfl, g, rfl⟩
        refine ⟨trivial, ?_⟩
        have htl : tabs.length = names.length := by rw [← lad.ts, List.length_map]
        cases htb : tabs with
        | nil => rw [htb] at htl; simp at htl; omega
        | cons tb0 tabs2 =>
          have hts := lad.ts
          rw [htb] at hts
          have hn0 : names[0]? = some tb0.1 := by rw [← hts]; rfl
          have ok2 : OkHouse (LH [tb0] (.tup []) []) := okh_rules (names := [tb0.1]) (by simp) (fun x h => by rw [List.mem_singleton.mp h]; exact lad.okn _ (List.mem_of_getElem? hn0)) (by simp) rfl (by simp) (fun r h => by cases h)
          walk_at "dl"
          refine ⟨st, _, LH [tb0] (.tup []) [], rfl, rfl, g, ok2, fun st g => ?_⟩
          walk_at "dl"
          have h0 : atI (names.map W.str) 0 = some (.str tb0.1) := atI_nat (j := 0) (v := W.str tb0.1) (by rw [List.getElem?_map, hn0]; rfl)
          rw [e_ixAL (hN st _) h0]
          refine ⟨LH [tb0] (.tup []) [], rfl, ok2, same_ok (by rw [out_eq ok2, bare_parts]; rfl) rfl ?_⟩
          exact Ends0.drop (S0 := []) _ (Nat.le_refl _) cl rfl (q _)
/-! ### the law's levels -/
section
variable {P : Program} {w : World} {K : Fg} {mg : Str → Option Value} {base : Heap}
theorem same_none (T : TFun K mg "_law_same" s_law_same ["due", "told"]) : TDef P w K mg base 0 "_law_same" s_law_same ["due", "told"] (F_same 0) := by
  obtain ⟨f, fd, h1, h2, h3⟩ := T.ex
  obtain ⟨_, _, kV, doc, pm, an, cdv, ct, _, e, _⟩ := h1.ex
  have no : ∀ vs H Q E, spOf K (F_same 0) vs H Q E → False := fun vs H Q E ⟨_, _, _, _, _, _, ⟨_, _, hp, _⟩, _⟩ => by cases hp
  exact ⟨f, fd, ⟨fun vs H Q E h => (no _ _ _ _ h).elim, fun A outer s H args us vs Q E _ _ _ _ h => (no _ _ _ _ h).elim⟩, h2, h1.kp, h3, kV, doc, pm, an, cdv, ct, e⟩
theorem same_all (Tx : Txt mg) (T : TFun K mg "_law_same" s_law_same ["due", "told"]) : ∀ n, TDef P w K mg base n "_law_same" s_law_same ["due", "told"] (F_same n)
  | 0 => same_none T
  | n + 1 => TFun.ok T sc_law_same (der_law_same Tx n (same_all Tx T n)) (fun _ _ _ ⟨_, e, _⟩ => by rw [e]; rfl) (vc_same n)
end

end K09

namespace K09
open PySem PySem.Spec PyProof.Rows L2 TL DL
section
variable {P : Program} {w : World} {K : Fg} {mg : Str → Option Value} {base : Heap}
theorem ok_all (T : Txt mg) (t_law_pool : TFun K mg "_law_pool" s_law_pool ["script"]) (t_law_pick : TFun K mg "_law_pick" s_law_pick ["pool", "many"]) (t_law_names : TFun K mg "_law_names" s_law_names ["pool", "many", "taken"]) (t_law_row : TFun K mg "_law_row" s_law_row ["pool", "table", "marks"]) (t_law_shuffled : TFun K mg "_law_shuffled" s_law_shuffled ["pool", "things"]) (t_law_ladder : TFun K mg "_law_ladder" s_law_ladder ["pool"]) (t_law_same : TFun K mg "_law_same" s_law_same ["due", "told"]) (t_rules_into : TFun K mg "rules_into" s_rules_into ["house", "table"]) (t_level_of : TFun K mg "level_of" s_level_of ["house", "table"]) (t_linked_names : TFun K mg "linked_names" s_linked_names ["house"]) (t_house_parts : TFun K mg "house_parts" s_house_parts ["house"]) (t_law_levels : TFun K mg "_law_levels" s_law_levels ["house"]) (t_law_parts : TFun K mg "_law_parts" s_law_parts ["house"]) (t_marks_of : TFun K mg "marks_of" s_marks_of ["rows"]) (t_open_marks : TFun K mg "open_marks" s_open_marks ["rule"]) (t_law_marks : TFun K mg "_law_marks" s_law_marks ["rows"]) (t_law_open : TFun K mg "_law_open" s_law_open ["rule"]) (t_law_asks : TFun K mg "_law_asks" s_law_asks ["pool", "house"]) (t_law_doors : TFun K mg "_law_doors" s_law_doors ["pool", "tables", "kept", "names"]) (t_law_ties : TFun K mg "_law_ties" s_law_ties ["pool", "tables", "most"]) (t_law_rules : TFun K mg "_law_rules" s_law_rules ["pool", "tables", "most"]) (t_law_house : TFun K mg "_law_house" s_law_house ["pool", "most", "rules", "ties", "doors", "triples"]) {fl : Addr} {fdl : FuncData} (Fu : Fun K "law" "law" s_law fl fdl) : FnOk P w K mg base CX0 14 fl fdl ["script"] (spOf K F_law) := by
  have D_law_pool : TDef P w K mg base 1 "_law_pool" s_law_pool ["script"] F_pool := TFun.ok t_law_pool sc_law_pool (der_law_pool T) (fun _ _ _ ⟨_, e, _⟩ => by rw [e]; rfl) vc_pool
  have D_law_pick : TDef P w K mg base 1 "_law_pick" s_law_pick ["pool", "many"] F_pick := TFun.ok t_law_pick sc_law_pick (der_law_pick T) (fun _ _ _ ⟨_, _, _, e, _⟩ => by rw [e]; rfl) vc_pick
  have D_law_names : TDef P w K mg base 2 "_law_names" s_law_names ["pool", "many", "taken"] F_names := TFun.ok t_law_names sc_law_names (der_law_names T D_law_pick) (fun _ _ _ ⟨_, _, _, _, e, _⟩ => by rw [e]; rfl) vc_names
  have D_law_row : TDef P w K mg base 2 "_law_row" s_law_row ["pool", "table", "marks"] F_row := TFun.ok t_law_row sc_law_row (der_law_row T D_law_pick) (fun _ _ _ ⟨_, _, _, _, _, e, _⟩ => by rw [e]; rfl) vc_row
  have D_law_shuffled : TDef P w K mg base 2 "_law_shuffled" s_law_shuffled ["pool", "things"] F_shuf := TFun.ok t_law_shuffled sc_law_shuffled (der_law_shuffled T D_law_pick) (fun _ _ _ ⟨_, _, _, _, e, _⟩ => by rw [e]; rfl) vc_shuf
  have D_law_ladder : TDef P w K mg base 3 "_law_ladder" s_law_ladder ["pool"] F_ladder := TFun.ok t_law_ladder sc_law_ladder (der_law_ladder T D_law_pick D_law_names D_law_row D_law_shuffled) (fun _ _ _ ⟨_, _, e, _⟩ => by rw [e]; rfl) vc_ladder
  have D_law_same : TDef P w K mg base 12 "_law_same" s_law_same ["due", "told"] (F_same 12) := same_all T t_law_same 12
  have D_rules_into : TDef P w K mg base 1 "rules_into" s_rules_into ["house", "table"] F_into := TFun.ok t_rules_into sc_rules_into (der_rules_into T) (fun _ _ _ ⟨_, _, e, _⟩ => by rw [e]; rfl) vc_into
  have D_level_of : TDef P w K mg base 2 "level_of" s_level_of ["house", "table"] F_level := TFun.ok t_level_of sc_level_of (der_level_of T D_rules_into) (fun _ _ _ ⟨_, _, e, _⟩ => by rw [e]; rfl) vc_level
  have D_linked_names : TDef P w K mg base 1 "linked_names" s_linked_names ["house"] F_linked := TFun.ok t_linked_names sc_linked_names (der_linked_names T) (fun _ _ _ ⟨_, e, _⟩ => by rw [e]; rfl) vc_linked
  have D_house_parts : TDef P w K mg base 2 "house_parts" s_house_parts ["house"] F_parts := TFun.ok t_house_parts sc_house_parts (der_house_parts T D_linked_names) (fun _ _ _ ⟨_, e, _⟩ => by rw [e]; rfl) vc_parts
  have D_law_levels : TDef P w K mg base 1 "_law_levels" s_law_levels ["house"] F_llevels := TFun.ok t_law_levels sc_law_levels (der_law_levels T) (fun _ _ _ ⟨_, e, _⟩ => by rw [e]; rfl) vc_llevels
  have D_law_parts : TDef P w K mg base 1 "_law_parts" s_law_parts ["house"] F_lparts := TFun.ok t_law_parts sc_law_parts (der_law_parts T) (fun _ _ _ ⟨_, e, _⟩ => by rw [e]; rfl) vc_lparts
  have D_marks_of : TDef P w K mg base 1 "marks_of" s_marks_of ["rows"] F_marks := TFun.ok t_marks_of sc_marks_of (der_marks_of T) (fun _ _ _ ⟨_, e, _⟩ => by rw [e]; rfl) vc_marks
  have D_open_marks : TDef P w K mg base 2 "open_marks" s_open_marks ["rule"] F_open := TFun.ok t_open_marks sc_open_marks (der_open_marks T D_marks_of) (fun _ _ _ ⟨_, e, _⟩ => by rw [e]; rfl) vc_open
  have D_law_marks : TDef P w K mg base 1 "_law_marks" s_law_marks ["rows"] F_lmarks := TFun.ok t_law_marks sc_law_marks (der_law_marks T) (fun _ _ _ ⟨_, e, _⟩ => by rw [e]; rfl) vc_lmarks
  have D_law_open : TDef P w K mg base 2 "_law_open" s_law_open ["rule"] F_lopen := TFun.ok t_law_open sc_law_open (der_law_open T D_law_marks) (fun _ _ _ ⟨_, e, _⟩ => by rw [e]; rfl) vc_lopen
  have D_law_asks : TDef P w K mg base 13 "_law_asks" s_law_asks ["pool", "house"] F_asks := TFun.ok t_law_asks sc_law_asks (der_law_asks T D_law_levels D_law_shuffled D_law_same D_rules_into D_level_of D_house_parts D_law_parts D_open_marks D_law_open) (fun _ _ _ ⟨_, _, _, e, _⟩ => by rw [e]; rfl) vc_asks
  have D_law_doors : TDef P w K mg base 2 "_law_doors" s_law_doors ["pool", "tables", "kept", "names"] F_doors := TFun.ok t_law_doors sc_law_doors (der_law_doors T D_law_pick) (fun _ _ _ ⟨_, _, _, _, _, _, _, _, e, _⟩ => by rw [e]; rfl) vc_doors
  have D_law_ties : TDef P w K mg base 2 "_law_ties" s_law_ties ["pool", "tables", "most"] F_ties := TFun.ok t_law_ties sc_law_ties (der_law_ties T D_law_pick) (fun _ _ _ ⟨_, _, _, _, e, _⟩ => by rw [e]; rfl) vc_ties
  have D_law_rules : TDef P w K mg base 3 "_law_rules" s_law_rules ["pool", "tables", "most"] F_rules := TFun.ok t_law_rules sc_law_rules (der_law_rules T D_law_pick D_law_names D_law_row) (fun _ _ _ ⟨_, _, _, _, e, _⟩ => by rw [e]; rfl) vc_rules
  have D_law_house : TDef P w K mg base 4 "_law_house" s_law_house ["pool", "most", "rules", "ties", "doors", "triples"] F_house := TFun.ok t_law_house sc_law_house (der_law_house T D_law_pick D_law_names D_law_row D_law_shuffled D_law_marks D_law_doors D_law_ties D_law_rules) (fun _ _ _ ⟨_, _, e, _⟩ => by rw [e]; rfl) vc_house
  exact fn_d Fu sc_law (fun _ _ _ ⟨_, e, _⟩ => by rw [e]; rfl) fun cdv A outer s H E hr => ⟨_, der_law T D_law_pool D_law_ladder D_law_shuffled D_law_same D_level_of D_house_parts D_law_asks D_law_pick D_law_house fl cdv A outer s H E hr, vc_law⟩
end
theorem tfun_mk {K : Fg} {w : World} {h : Heap} {mg : Str → Option Value} {x : Str} {st : Stmt} {ps : List Str} {f : Addr} {oc : Value} {od an : Option Addr} {osl : Array (Option Value)} {kV doc pm cdv ct : Value} (X : K.In h) (G : h.Ns mainGlobals mg)
    (a : PySem.W.nsIn K mainGlobals x = some (some (.ref f))) (l : K.lookup f = some ⟨oc, od, .func (PySem.W.fnOf x x (defArgs st) (defBody st) (defScope st) .none kV doc pm an cdv ct), osl⟩) (c : PySem.W.codeIn K cdv x = true) (k : PySem.W.keepIn K (.ref f) = true)
    (b : ∀ (kV doc pm : Value) (an : Option Addr) (cdv ct : Value) (us : List Value), us.length = ps.length → bindArgs (PySem.W.fnOf x x (defArgs st) (defBody st) (defScope st) .none kV doc pm an cdv ct) ⟨us, []⟩ = pure (ps.zip us)) : TFun K mg x st ps :=
  ⟨f, _, fun_mk l c k, PySem.W.mg_of X G a, (fun_mk l c k).binds b⟩
theorem all_mk {l : PySem.W.OpenLaw} {w : World} {K : Fg} {h : Heap} {mg : Str → Option Value} {fa f0 f1 f2 f3 f4 f5 f6 f7 f8 f9 f10 f11 f12 f13 f14 f15 f16 f17 f18 f19 f20 f21 f22 : Addr} (X : K.In h) (G : h.Ns mainGlobals mg) (hfa : mg "law" = some (.ref fa))
    {od0 an0 : Option Addr} {sl0 : Array (Option Value)} {oc0 kV0 dc0 pm0 cd0 ct0 : Value}
    {od1 an1 : Option Addr} {sl1 : Array (Option Value)} {oc1 kV1 dc1 pm1 cd1 ct1 : Value}
    {od2 an2 : Option Addr} {sl2 : Array (Option Value)} {oc2 kV2 dc2 pm2 cd2 ct2 : Value}
    {od3 an3 : Option Addr} {sl3 : Array (Option Value)} {oc3 kV3 dc3 pm3 cd3 ct3 : Value}
    {od4 an4 : Option Addr} {sl4 : Array (Option Value)} {oc4 kV4 dc4 pm4 cd4 ct4 : Value}
    {od5 an5 : Option Addr} {sl5 : Array (Option Value)} {oc5 kV5 dc5 pm5 cd5 ct5 : Value}
    {od6 an6 : Option Addr} {sl6 : Array (Option Value)} {oc6 kV6 dc6 pm6 cd6 ct6 : Value}
    {od7 an7 : Option Addr} {sl7 : Array (Option Value)} {oc7 kV7 dc7 pm7 cd7 ct7 : Value}
    {od8 an8 : Option Addr} {sl8 : Array (Option Value)} {oc8 kV8 dc8 pm8 cd8 ct8 : Value}
    {od9 an9 : Option Addr} {sl9 : Array (Option Value)} {oc9 kV9 dc9 pm9 cd9 ct9 : Value}
    {od10 an10 : Option Addr} {sl10 : Array (Option Value)} {oc10 kV10 dc10 pm10 cd10 ct10 : Value}
    {od11 an11 : Option Addr} {sl11 : Array (Option Value)} {oc11 kV11 dc11 pm11 cd11 ct11 : Value}
    {od12 an12 : Option Addr} {sl12 : Array (Option Value)} {oc12 kV12 dc12 pm12 cd12 ct12 : Value}
    {od13 an13 : Option Addr} {sl13 : Array (Option Value)} {oc13 kV13 dc13 pm13 cd13 ct13 : Value}
    {od14 an14 : Option Addr} {sl14 : Array (Option Value)} {oc14 kV14 dc14 pm14 cd14 ct14 : Value}
    {od15 an15 : Option Addr} {sl15 : Array (Option Value)} {oc15 kV15 dc15 pm15 cd15 ct15 : Value}
    {od16 an16 : Option Addr} {sl16 : Array (Option Value)} {oc16 kV16 dc16 pm16 cd16 ct16 : Value}
    {od17 an17 : Option Addr} {sl17 : Array (Option Value)} {oc17 kV17 dc17 pm17 cd17 ct17 : Value}
    {od18 an18 : Option Addr} {sl18 : Array (Option Value)} {oc18 kV18 dc18 pm18 cd18 ct18 : Value}
    {od19 an19 : Option Addr} {sl19 : Array (Option Value)} {oc19 kV19 dc19 pm19 cd19 ct19 : Value}
    {od20 an20 : Option Addr} {sl20 : Array (Option Value)} {oc20 kV20 dc20 pm20 cd20 ct20 : Value}
    {od21 an21 : Option Addr} {sl21 : Array (Option Value)} {oc21 kV21 dc21 pm21 cd21 ct21 : Value}
    {od22 an22 : Option Addr} {sl22 : Array (Option Value)} {oc22 kV22 dc22 pm22 cd22 ct22 : Value}
    (a0 : PySem.W.nsIn K mainGlobals "_law_pool" = some (some (.ref f0))) (l0 : K.lookup f0 = some ⟨oc0, od0, .func (PySem.W.fnOf "_law_pool" "_law_pool" (defArgs s_law_pool) (defBody s_law_pool) (defScope s_law_pool) .none kV0 dc0 pm0 an0 cd0 ct0), sl0⟩) (c0 : PySem.W.codeIn K cd0 "_law_pool" = true) (k0 : PySem.W.keepIn K (.ref f0) = true)
    (a1 : PySem.W.nsIn K mainGlobals "_law_pick" = some (some (.ref f1))) (l1 : K.lookup f1 = some ⟨oc1, od1, .func (PySem.W.fnOf "_law_pick" "_law_pick" (defArgs s_law_pick) (defBody s_law_pick) (defScope s_law_pick) .none kV1 dc1 pm1 an1 cd1 ct1), sl1⟩) (c1 : PySem.W.codeIn K cd1 "_law_pick" = true) (k1 : PySem.W.keepIn K (.ref f1) = true)
    (a2 : PySem.W.nsIn K mainGlobals "_law_names" = some (some (.ref f2))) (l2 : K.lookup f2 = some ⟨oc2, od2, .func (PySem.W.fnOf "_law_names" "_law_names" (defArgs s_law_names) (defBody s_law_names) (defScope s_law_names) .none kV2 dc2 pm2 an2 cd2 ct2), sl2⟩) (c2 : PySem.W.codeIn K cd2 "_law_names" = true) (k2 : PySem.W.keepIn K (.ref f2) = true)
    (a3 : PySem.W.nsIn K mainGlobals "_law_row" = some (some (.ref f3))) (l3 : K.lookup f3 = some ⟨oc3, od3, .func (PySem.W.fnOf "_law_row" "_law_row" (defArgs s_law_row) (defBody s_law_row) (defScope s_law_row) .none kV3 dc3 pm3 an3 cd3 ct3), sl3⟩) (c3 : PySem.W.codeIn K cd3 "_law_row" = true) (k3 : PySem.W.keepIn K (.ref f3) = true)
    (a4 : PySem.W.nsIn K mainGlobals "_law_shuffled" = some (some (.ref f4))) (l4 : K.lookup f4 = some ⟨oc4, od4, .func (PySem.W.fnOf "_law_shuffled" "_law_shuffled" (defArgs s_law_shuffled) (defBody s_law_shuffled) (defScope s_law_shuffled) .none kV4 dc4 pm4 an4 cd4 ct4), sl4⟩) (c4 : PySem.W.codeIn K cd4 "_law_shuffled" = true) (k4 : PySem.W.keepIn K (.ref f4) = true)
    (a5 : PySem.W.nsIn K mainGlobals "_law_ladder" = some (some (.ref f5))) (l5 : K.lookup f5 = some ⟨oc5, od5, .func (PySem.W.fnOf "_law_ladder" "_law_ladder" (defArgs s_law_ladder) (defBody s_law_ladder) (defScope s_law_ladder) .none kV5 dc5 pm5 an5 cd5 ct5), sl5⟩) (c5 : PySem.W.codeIn K cd5 "_law_ladder" = true) (k5 : PySem.W.keepIn K (.ref f5) = true)
    (a6 : PySem.W.nsIn K mainGlobals "_law_same" = some (some (.ref f6))) (l6 : K.lookup f6 = some ⟨oc6, od6, .func (PySem.W.fnOf "_law_same" "_law_same" (defArgs s_law_same) (defBody s_law_same) (defScope s_law_same) .none kV6 dc6 pm6 an6 cd6 ct6), sl6⟩) (c6 : PySem.W.codeIn K cd6 "_law_same" = true) (k6 : PySem.W.keepIn K (.ref f6) = true)
    (a7 : PySem.W.nsIn K mainGlobals "rules_into" = some (some (.ref f7))) (l7 : K.lookup f7 = some ⟨oc7, od7, .func (PySem.W.fnOf "rules_into" "rules_into" (defArgs s_rules_into) (defBody s_rules_into) (defScope s_rules_into) .none kV7 dc7 pm7 an7 cd7 ct7), sl7⟩) (c7 : PySem.W.codeIn K cd7 "rules_into" = true) (k7 : PySem.W.keepIn K (.ref f7) = true)
    (a8 : PySem.W.nsIn K mainGlobals "level_of" = some (some (.ref f8))) (l8 : K.lookup f8 = some ⟨oc8, od8, .func (PySem.W.fnOf "level_of" "level_of" (defArgs s_level_of) (defBody s_level_of) (defScope s_level_of) .none kV8 dc8 pm8 an8 cd8 ct8), sl8⟩) (c8 : PySem.W.codeIn K cd8 "level_of" = true) (k8 : PySem.W.keepIn K (.ref f8) = true)
    (a9 : PySem.W.nsIn K mainGlobals "linked_names" = some (some (.ref f9))) (l9 : K.lookup f9 = some ⟨oc9, od9, .func (PySem.W.fnOf "linked_names" "linked_names" (defArgs s_linked_names) (defBody s_linked_names) (defScope s_linked_names) .none kV9 dc9 pm9 an9 cd9 ct9), sl9⟩) (c9 : PySem.W.codeIn K cd9 "linked_names" = true) (k9 : PySem.W.keepIn K (.ref f9) = true)
    (a10 : PySem.W.nsIn K mainGlobals "house_parts" = some (some (.ref f10))) (l10 : K.lookup f10 = some ⟨oc10, od10, .func (PySem.W.fnOf "house_parts" "house_parts" (defArgs s_house_parts) (defBody s_house_parts) (defScope s_house_parts) .none kV10 dc10 pm10 an10 cd10 ct10), sl10⟩) (c10 : PySem.W.codeIn K cd10 "house_parts" = true) (k10 : PySem.W.keepIn K (.ref f10) = true)
    (a11 : PySem.W.nsIn K mainGlobals "_law_levels" = some (some (.ref f11))) (l11 : K.lookup f11 = some ⟨oc11, od11, .func (PySem.W.fnOf "_law_levels" "_law_levels" (defArgs s_law_levels) (defBody s_law_levels) (defScope s_law_levels) .none kV11 dc11 pm11 an11 cd11 ct11), sl11⟩) (c11 : PySem.W.codeIn K cd11 "_law_levels" = true) (k11 : PySem.W.keepIn K (.ref f11) = true)
    (a12 : PySem.W.nsIn K mainGlobals "_law_parts" = some (some (.ref f12))) (l12 : K.lookup f12 = some ⟨oc12, od12, .func (PySem.W.fnOf "_law_parts" "_law_parts" (defArgs s_law_parts) (defBody s_law_parts) (defScope s_law_parts) .none kV12 dc12 pm12 an12 cd12 ct12), sl12⟩) (c12 : PySem.W.codeIn K cd12 "_law_parts" = true) (k12 : PySem.W.keepIn K (.ref f12) = true)
    (a13 : PySem.W.nsIn K mainGlobals "marks_of" = some (some (.ref f13))) (l13 : K.lookup f13 = some ⟨oc13, od13, .func (PySem.W.fnOf "marks_of" "marks_of" (defArgs s_marks_of) (defBody s_marks_of) (defScope s_marks_of) .none kV13 dc13 pm13 an13 cd13 ct13), sl13⟩) (c13 : PySem.W.codeIn K cd13 "marks_of" = true) (k13 : PySem.W.keepIn K (.ref f13) = true)
    (a14 : PySem.W.nsIn K mainGlobals "open_marks" = some (some (.ref f14))) (l14 : K.lookup f14 = some ⟨oc14, od14, .func (PySem.W.fnOf "open_marks" "open_marks" (defArgs s_open_marks) (defBody s_open_marks) (defScope s_open_marks) .none kV14 dc14 pm14 an14 cd14 ct14), sl14⟩) (c14 : PySem.W.codeIn K cd14 "open_marks" = true) (k14 : PySem.W.keepIn K (.ref f14) = true)
    (a15 : PySem.W.nsIn K mainGlobals "_law_marks" = some (some (.ref f15))) (l15 : K.lookup f15 = some ⟨oc15, od15, .func (PySem.W.fnOf "_law_marks" "_law_marks" (defArgs s_law_marks) (defBody s_law_marks) (defScope s_law_marks) .none kV15 dc15 pm15 an15 cd15 ct15), sl15⟩) (c15 : PySem.W.codeIn K cd15 "_law_marks" = true) (k15 : PySem.W.keepIn K (.ref f15) = true)
    (a16 : PySem.W.nsIn K mainGlobals "_law_open" = some (some (.ref f16))) (l16 : K.lookup f16 = some ⟨oc16, od16, .func (PySem.W.fnOf "_law_open" "_law_open" (defArgs s_law_open) (defBody s_law_open) (defScope s_law_open) .none kV16 dc16 pm16 an16 cd16 ct16), sl16⟩) (c16 : PySem.W.codeIn K cd16 "_law_open" = true) (k16 : PySem.W.keepIn K (.ref f16) = true)
    (a17 : PySem.W.nsIn K mainGlobals "_law_asks" = some (some (.ref f17))) (l17 : K.lookup f17 = some ⟨oc17, od17, .func (PySem.W.fnOf "_law_asks" "_law_asks" (defArgs s_law_asks) (defBody s_law_asks) (defScope s_law_asks) .none kV17 dc17 pm17 an17 cd17 ct17), sl17⟩) (c17 : PySem.W.codeIn K cd17 "_law_asks" = true) (k17 : PySem.W.keepIn K (.ref f17) = true)
    (a18 : PySem.W.nsIn K mainGlobals "_law_doors" = some (some (.ref f18))) (l18 : K.lookup f18 = some ⟨oc18, od18, .func (PySem.W.fnOf "_law_doors" "_law_doors" (defArgs s_law_doors) (defBody s_law_doors) (defScope s_law_doors) .none kV18 dc18 pm18 an18 cd18 ct18), sl18⟩) (c18 : PySem.W.codeIn K cd18 "_law_doors" = true) (k18 : PySem.W.keepIn K (.ref f18) = true)
    (a19 : PySem.W.nsIn K mainGlobals "_law_ties" = some (some (.ref f19))) (l19 : K.lookup f19 = some ⟨oc19, od19, .func (PySem.W.fnOf "_law_ties" "_law_ties" (defArgs s_law_ties) (defBody s_law_ties) (defScope s_law_ties) .none kV19 dc19 pm19 an19 cd19 ct19), sl19⟩) (c19 : PySem.W.codeIn K cd19 "_law_ties" = true) (k19 : PySem.W.keepIn K (.ref f19) = true)
    (a20 : PySem.W.nsIn K mainGlobals "_law_rules" = some (some (.ref f20))) (l20 : K.lookup f20 = some ⟨oc20, od20, .func (PySem.W.fnOf "_law_rules" "_law_rules" (defArgs s_law_rules) (defBody s_law_rules) (defScope s_law_rules) .none kV20 dc20 pm20 an20 cd20 ct20), sl20⟩) (c20 : PySem.W.codeIn K cd20 "_law_rules" = true) (k20 : PySem.W.keepIn K (.ref f20) = true)
    (a21 : PySem.W.nsIn K mainGlobals "_law_house" = some (some (.ref f21))) (l21 : K.lookup f21 = some ⟨oc21, od21, .func (PySem.W.fnOf "_law_house" "_law_house" (defArgs s_law_house) (defBody s_law_house) (defScope s_law_house) .none kV21 dc21 pm21 an21 cd21 ct21), sl21⟩) (c21 : PySem.W.codeIn K cd21 "_law_house" = true) (k21 : PySem.W.keepIn K (.ref f21) = true)
    (a22 : PySem.W.nsIn K mainGlobals "law" = some (some (.ref f22))) (l22 : K.lookup f22 = some ⟨oc22, od22, .func (PySem.W.fnOf "law" "law" (defArgs s_law) (defBody s_law) (defScope s_law) .none kV22 dc22 pm22 an22 cd22 ct22), sl22⟩) (c22 : PySem.W.codeIn K cd22 "law" = true) (k22 : PySem.W.keepIn K (.ref f22) = true)
    (z0 : PySem.W.nsIn K mainGlobals "isinstance" = some none) (z1 : PySem.W.nsIn K mainGlobals "str" = some none) (z2 : PySem.W.nsIn K mainGlobals "tuple" = some none) (z3 : PySem.W.nsIn K mainGlobals "list" = some none) (z4 : PySem.W.nsIn K mainGlobals "enumerate" = some none) (z5 : PySem.W.nsIn K mainGlobals "max" = some none) (z6 : PySem.W.nsIn K mainGlobals "any" = some none) (z7 : PySem.W.nsIn K mainGlobals "sorted" = some none) (z8 : PySem.W.nsIn K mainGlobals "int" = some none) (z9 : PySem.W.nsIn K mainGlobals "range" = some none) (z10 : PySem.W.nsIn K mainGlobals "len" = some none) (z11 : PySem.W.nsIn K mainGlobals "bool" = some none) (z12 : PySem.W.nsIn K mainGlobals "dict" = some none)
    : ∃ fd : FuncData, (∀ (s : Shared) (v : Value), BindsTo s fd ⟨[v], []⟩ [("script", v)]) ∧ ∀ base : Heap, K.In base → base.Ns mainGlobals mg → FnOk l.prog w K mg base CX0 14 fa fd ["script"] (spOf K F_law) := by
  have e := hfa.symm.trans (PySem.W.mg_of X G a22)
  cases e
  have t0 : TFun K mg "_law_pool" s_law_pool ["script"] := tfun_mk (w := w) X G a0 l0 c0 k0 fun _ _ _ _ _ _ us hl => match us, hl with | [_], _ => rfl
  have t1 : TFun K mg "_law_pick" s_law_pick ["pool", "many"] := tfun_mk (w := w) X G a1 l1 c1 k1 fun _ _ _ _ _ _ us hl => match us, hl with | [_, _], _ => rfl
  have t2 : TFun K mg "_law_names" s_law_names ["pool", "many", "taken"] := tfun_mk (w := w) X G a2 l2 c2 k2 fun _ _ _ _ _ _ us hl => match us, hl with | [_, _, _], _ => rfl
  have t3 : TFun K mg "_law_row" s_law_row ["pool", "table", "marks"] := tfun_mk (w := w) X G a3 l3 c3 k3 fun _ _ _ _ _ _ us hl => match us, hl with | [_, _, _], _ => rfl
  have t4 : TFun K mg "_law_shuffled" s_law_shuffled ["pool", "things"] := tfun_mk (w := w) X G a4 l4 c4 k4 fun _ _ _ _ _ _ us hl => match us, hl with | [_, _], _ => rfl
  have t5 : TFun K mg "_law_ladder" s_law_ladder ["pool"] := tfun_mk (w := w) X G a5 l5 c5 k5 fun _ _ _ _ _ _ us hl => match us, hl with | [_], _ => rfl
  have t6 : TFun K mg "_law_same" s_law_same ["due", "told"] := tfun_mk (w := w) X G a6 l6 c6 k6 fun _ _ _ _ _ _ us hl => match us, hl with | [_, _], _ => rfl
  have t7 : TFun K mg "rules_into" s_rules_into ["house", "table"] := tfun_mk (w := w) X G a7 l7 c7 k7 fun _ _ _ _ _ _ us hl => match us, hl with | [_, _], _ => rfl
  have t8 : TFun K mg "level_of" s_level_of ["house", "table"] := tfun_mk (w := w) X G a8 l8 c8 k8 fun _ _ _ _ _ _ us hl => match us, hl with | [_, _], _ => rfl
  have t9 : TFun K mg "linked_names" s_linked_names ["house"] := tfun_mk (w := w) X G a9 l9 c9 k9 fun _ _ _ _ _ _ us hl => match us, hl with | [_], _ => rfl
  have t10 : TFun K mg "house_parts" s_house_parts ["house"] := tfun_mk (w := w) X G a10 l10 c10 k10 fun _ _ _ _ _ _ us hl => match us, hl with | [_], _ => rfl
  have t11 : TFun K mg "_law_levels" s_law_levels ["house"] := tfun_mk (w := w) X G a11 l11 c11 k11 fun _ _ _ _ _ _ us hl => match us, hl with | [_], _ => rfl
  have t12 : TFun K mg "_law_parts" s_law_parts ["house"] := tfun_mk (w := w) X G a12 l12 c12 k12 fun _ _ _ _ _ _ us hl => match us, hl with | [_], _ => rfl
  have t13 : TFun K mg "marks_of" s_marks_of ["rows"] := tfun_mk (w := w) X G a13 l13 c13 k13 fun _ _ _ _ _ _ us hl => match us, hl with | [_], _ => rfl
  have t14 : TFun K mg "open_marks" s_open_marks ["rule"] := tfun_mk (w := w) X G a14 l14 c14 k14 fun _ _ _ _ _ _ us hl => match us, hl with | [_], _ => rfl
  have t15 : TFun K mg "_law_marks" s_law_marks ["rows"] := tfun_mk (w := w) X G a15 l15 c15 k15 fun _ _ _ _ _ _ us hl => match us, hl with | [_], _ => rfl
  have t16 : TFun K mg "_law_open" s_law_open ["rule"] := tfun_mk (w := w) X G a16 l16 c16 k16 fun _ _ _ _ _ _ us hl => match us, hl with | [_], _ => rfl
  have t17 : TFun K mg "_law_asks" s_law_asks ["pool", "house"] := tfun_mk (w := w) X G a17 l17 c17 k17 fun _ _ _ _ _ _ us hl => match us, hl with | [_, _], _ => rfl
  have t18 : TFun K mg "_law_doors" s_law_doors ["pool", "tables", "kept", "names"] := tfun_mk (w := w) X G a18 l18 c18 k18 fun _ _ _ _ _ _ us hl => match us, hl with | [_, _, _, _], _ => rfl
  have t19 : TFun K mg "_law_ties" s_law_ties ["pool", "tables", "most"] := tfun_mk (w := w) X G a19 l19 c19 k19 fun _ _ _ _ _ _ us hl => match us, hl with | [_, _, _], _ => rfl
  have t20 : TFun K mg "_law_rules" s_law_rules ["pool", "tables", "most"] := tfun_mk (w := w) X G a20 l20 c20 k20 fun _ _ _ _ _ _ us hl => match us, hl with | [_, _, _], _ => rfl
  have t21 : TFun K mg "_law_house" s_law_house ["pool", "most", "rules", "ties", "doors", "triples"] := tfun_mk (w := w) X G a21 l21 c21 k21 fun _ _ _ _ _ _ us hl => match us, hl with | [_, _, _, _, _, _], _ => rfl
  have T : Txt mg := ⟨PySem.W.mg_none_of X G z0, PySem.W.mg_none_of X G z1, PySem.W.mg_none_of X G z2, PySem.W.mg_none_of X G z3, PySem.W.mg_none_of X G z4, PySem.W.mg_none_of X G z5, PySem.W.mg_none_of X G z6, PySem.W.mg_none_of X G z7, PySem.W.mg_none_of X G z8, PySem.W.mg_none_of X G z9, PySem.W.mg_none_of X G z10, PySem.W.mg_none_of X G z11, PySem.W.mg_none_of X G z12⟩
  refine ⟨PySem.W.fnOf "law" "law" (defArgs s_law) (defBody s_law) (defScope s_law) .none kV22 dc22 pm22 an22 cd22 ct22, fun s v => .of_eq rfl, fun base _ _ => ?_⟩
  exact ok_all (P := l.prog) (w := w) (base := base) T t0 t1 t2 t3 t4 t5 t6 t7 t8 t9 t10 t11 t12 t13 t14 t15 t16 t17 t18 t19 t20 t21 (fun_mk l22 c22 k22)
theorem repL_of_ints {K : Fg} {H : Hp} {r : List Addr} : ∀ ns : List Int, RepL K r H (ns.map V.int) (ns.map W.int)
  | [] => .nil
  | x :: ns => .cons (.int x) (repL_of_ints ns)
theorem hsp_mk {K : Fg} {H : Hp} {a : Addr} {ns : List Int} (hl : ns.length ≤ 63) (ho : Only H) (hs : SqL K H a (ns.map V.int)) : spOf K F_law [.ref a] H (fun v _ => v = .bl true) fun _ _ _ => False := by
  refine ⟨[], [], [.lit (ns.map W.int)], fun w _ => w = .bl true, ⟨rfl, List.nodup_nil, fun i a o h => by simp at h⟩, .cons (.lit ⟨hs, ?_⟩ ?_) .nil, ⟨ns, rfl, rfl, hl, fun _ => rfl⟩, fun _ _ _ v w _ _ r e => ?_⟩
  · rcases hs with h | ⟨o, its, n, h1, h2, h3, h4, h5, h6⟩
    · rcases h with h | ⟨o, h⟩
      · rcases ho a with h2 | ⟨o, xs, h2⟩
        · rw [h2] at h; cases h
        · rw [h2] at h; cases h
      · exact .inl ⟨o, h⟩
    · exact .inr fun H' => .inr ⟨o, its, n, h1, h2, h3, h4, h5, h6⟩
  · exact repL_of_ints ns
  · subst e
    cases r
    rfl
end K09
open PySem PySem.W PyProof.Rows
set_option maxHeartbeats 0 in
theorem PySem.Challenge.cw_throughdoors_k09_rule_lists_holds : PySem.Challenge.rw_throughdoors_k09_rule_lists.Holds := by
  w_on; o_law; k_head; (case hw => w_witness2)
  k_fill
  refine L2.walk_of (l := PySem.Challenge.rw_throughdoors_k09_rule_lists) (n := 63) (k := 14) (x := "script") (CX := fun _ => L2.CX0) (sp := fun w => DL.spOf _ K09.F_law) rfl (by decide) rfl ⟨rfl, by decide, by decide⟩ (fun w h Y => PySem.W.kIn_of Y) ?F (fun _ _ _ _ hl ho hs => K09.hsp_mk hl ho hs) (fun _ _ _ _ _ h => h)
  case F =>
    intro w mg fa h KX G hmg
    refine' K09.all_mk KX G hmg ?a0 ?l0 ?c0 ?k0 ?a1 ?l1 ?c1 ?k1 ?a2 ?l2 ?c2 ?k2 ?a3 ?l3 ?c3 ?k3 ?a4 ?l4 ?c4 ?k4 ?a5 ?l5 ?c5 ?k5 ?a6 ?l6 ?c6 ?k6 ?a7 ?l7 ?c7 ?k7 ?a8 ?l8 ?c8 ?k8 ?a9 ?l9 ?c9 ?k9 ?a10 ?l10 ?c10 ?k10 ?a11 ?l11 ?c11 ?k11 ?a12 ?l12 ?c12 ?k12 ?a13 ?l13 ?c13 ?k13 ?a14 ?l14 ?c14 ?k14 ?a15 ?l15 ?c15 ?k15 ?a16 ?l16 ?c16 ?k16 ?a17 ?l17 ?c17 ?k17 ?a18 ?l18 ?c18 ?k18 ?a19 ?l19 ?c19 ?k19 ?a20 ?l20 ?c20 ?k20 ?a21 ?l21 ?c21 ?k21 ?a22 ?l22 ?c22 ?k22 ?z0 ?z1 ?z2 ?z3 ?z4 ?z5 ?z6 ?z7 ?z8 ?z9 ?z10 ?z11 ?z12
    (case a0 => k_is)
    (case l0 => k_is)
    (case c0 => k_is)
    (case k0 => k_is)
    (case a1 => k_is)
    (case l1 => k_is)
    (case c1 => k_is)
    (case k1 => k_is)
    (case a2 => k_is)
    (case l2 => k_is)
    (case c2 => k_is)
    (case k2 => k_is)
    (case a3 => k_is)
    (case l3 => k_is)
    (case c3 => k_is)
    (case k3 => k_is)
    (case a4 => k_is)
    (case l4 => k_is)
    (case c4 => k_is)
    (case k4 => k_is)
    (case a5 => k_is)
    (case l5 => k_is)
    (case c5 => k_is)
    (case k5 => k_is)
    (case a6 => k_is)
    (case l6 => k_is)
    (case c6 => k_is)
    (case k6 => k_is)
    (case a7 => k_is)
    (case l7 => k_is)
    (case c7 => k_is)
    (case k7 => k_is)
    (case a8 => k_is)
    (case l8 => k_is)
    (case c8 => k_is)
    (case k8 => k_is)
    (case a9 => k_is)
    (case l9 => k_is)
    (case c9 => k_is)
    (case k9 => k_is)
    (case a10 => k_is)
    (case l10 => k_is)
    (case c10 => k_is)
    (case k10 => k_is)
    (case a11 => k_is)
    (case l11 => k_is)
    (case c11 => k_is)
    (case k11 => k_is)
    (case a12 => k_is)
    (case l12 => k_is)
    (case c12 => k_is)
    (case k12 => k_is)
    (case a13 => k_is)
    (case l13 => k_is)
    (case c13 => k_is)
    (case k13 => k_is)
    (case a14 => k_is)
    (case l14 => k_is)
    (case c14 => k_is)
    (case k14 => k_is)
    (case a15 => k_is)
    (case l15 => k_is)
    (case c15 => k_is)
    (case k15 => k_is)
    (case a16 => k_is)
    (case l16 => k_is)
    (case c16 => k_is)
    (case k16 => k_is)
    (case a17 => k_is)
    (case l17 => k_is)
    (case c17 => k_is)
    (case k17 => k_is)
    (case a18 => k_is)
    (case l18 => k_is)
    (case c18 => k_is)
    (case k18 => k_is)
    (case a19 => k_is)
    (case l19 => k_is)
    (case c19 => k_is)
    (case k19 => k_is)
    (case a20 => k_is)
    (case l20 => k_is)
    (case c20 => k_is)
    (case k20 => k_is)
    (case a21 => k_is)
    (case l21 => k_is)
    (case c21 => k_is)
    (case k21 => k_is)
    (case a22 => k_is)
    (case l22 => k_is)
    (case c22 => k_is)
    (case k22 => k_is)
    (case z0 => k_is)
    (case z1 => k_is)
    (case z2 => k_is)
    (case z3 => k_is)
    (case z4 => k_is)
    (case z5 => k_is)
    (case z6 => k_is)
    (case z7 => k_is)
    (case z8 => k_is)
    (case z9 => k_is)
    (case z10 => k_is)
    (case z11 => k_is)
    (case z12 => k_is)
