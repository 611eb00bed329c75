import PyProof.Rows.All
import Wide.All
import OpenK.AllK
import Wide.FinOn
import HandS.ForMost
import HandS.ForExc
import HandS.Deep
import HandS.Wide
import HandS.Flow
import HandS.Gcd
import HandS.TupAny
import KE.KTupSum
import HandS.Conv
import HandS.ExcField
import HandS.ExcIs
import HandS.ExcOwn
import HandS.ExcValue
import HandS.Flt
import HandS.IsInst
import HandS.NoneIn
import HandS.SetFor
import HandS.SortInts
import HandS.Strs
import HandS.Style
import HandS.TryMany
import HandS.TupLe
import KE.KExcIs
import KE.KExcSuper
import KE.KSuper
import KE.SortData
import PySem.Challenge.RW_examworks_k00_errors_are_apart
set_option Elab.async false
set_option linter.all false
set_option maxRecDepth 100000
set_option Elab.async false
set_option linter.all false
set_option maxRecDepth 100000
set_option maxHeartbeats 1000000
namespace DL
open PySem PySem.Spec PyProof.Rows L2
abbrev D := PyData
abbrev Fp := List (Addr × HO)
/-- all that stands stays -/
abbrev Le (B B' : Hp) : Prop := ∀ a o, B a = some o → B' a = some o
theorem Le.refl (B : Hp) : Le B B := fun _ _ h => h
theorem Le.trans {A B C : Hp} (h : Le A B) (g : Le B C) : Le A C := fun a o e => g a o (h a o e)
/-- what may stand in an owned cell -/
def isCell : HO → Bool
  | .lst _ => true
  | .dK _ => true
  | .dT _ => true
  | _ => false
/-- the heap H is the frozen part B and the owned cells c -/
structure Ov (B : Hp) (c : Fp) (H : Hp) : Prop where
  own : ∀ a o, (a, o) ∈ c → H a = some o ∧ B a = none
  frz : ∀ a, (∀ o, (a, o) ∉ c) → H a = B a
  nd : (c.map (·.1)).Nodup
  ck : ∀ a o, (a, o) ∈ c → isCell o = true
theorem Ov.le {B : Hp} {c : Fp} {H : Hp} (h : Ov B c H) : Le B H := fun a o e => by
  by_cases q : ∃ o', (a, o') ∈ c
  · obtain ⟨o', q⟩ := q
    have := (h.own a o' q).2
    rw [this] at e; cases e
  · rw [h.frz a (fun o' m => q ⟨o', m⟩)]; exact e
theorem Ov.perm {B : Hp} {c c' : Fp} {H : Hp} (h : Ov B c H) (p : c.Perm c') : Ov B c' H :=
  ⟨fun a o m => h.own a o (p.mem_iff.mpr m), fun a n => h.frz a fun o m => n o (p.mem_iff.mp m), (p.map (·.1)).nodup_iff.mp h.nd, fun a o m => h.ck a o (p.mem_iff.mpr m)⟩
theorem Ov.nil (H : Hp) : Ov H [] H := ⟨fun _ _ m => (nomatch m), fun _ _ => rfl, List.nodup_nil, fun _ _ m => (nomatch m)⟩
theorem Ov.free {B : Hp} {c : Fp} {H : Hp} (h : Ov B c H) {p : Addr} (n : H p = none) : B p = none ∧ ∀ o, (p, o) ∉ c := by
  constructor
  · cases e : B p with
    | none => rfl
    | some o => rw [h.le p o e] at n; cases n
  · intro o m
    rw [(h.own p o m).1] at n; cases n
/-- a new cell, frozen -/
theorem Ov.new {B : Hp} {c : Fp} {H : Hp} (h : Ov B c H) {p : Addr} (n : H p = none) (o : HO) : Ov (upd B p o) c (upd H p o) := by
  obtain ⟨hb, hc⟩ := h.free n
  refine ⟨fun a u m => ?_, fun a hn => ?_, h.nd, h.ck⟩
  · have ne : a ≠ p := by rintro rfl; exact hc u m
    rw [upd_ne ne, upd_ne ne]; exact h.own a u m
  · by_cases e : a = p
    · subst e; rw [upd_same, upd_same]
    · rw [upd_ne e, upd_ne e]; exact h.frz a hn
theorem le_new {B : Hp} {p : Addr} (n : B p = none) (o : HO) : Le B (upd B p o) := fun a u e => by
  rw [upd_ne (ne_of_none e n)]; exact e
/-- a new cell, owned -/
theorem Ov.newOwn {B : Hp} {c : Fp} {H : Hp} (h : Ov B c H) {p : Addr} (n : H p = none) (o : HO) (k : isCell o = true := by rfl) : Ov B ((p, o) :: c) (upd H p o) := by
  obtain ⟨hb, hc⟩ := h.free n
  refine ⟨fun a u m => ?_, fun a hn => ?_, ?_, fun a u m => (List.mem_cons.mp m).elim (fun e => by cases e; exact k) (h.ck a u)⟩
  · rcases List.mem_cons.mp m with e | m'
    · cases e; exact ⟨upd_same, hb⟩
    · have ne : a ≠ p := by rintro rfl; exact hc u m'
      rw [upd_ne ne]; exact h.own a u m'
  · have ne : a ≠ p := by rintro rfl; exact hn o List.mem_cons_self
    rw [upd_ne ne]; exact h.frz a fun u m => hn u (List.mem_cons_of_mem _ m)
  · rw [List.map_cons, List.nodup_cons]
    refine ⟨fun m => ?_, h.nd⟩
    obtain ⟨⟨a, u⟩, m', e⟩ := List.mem_map.mp m
    have e : a = p := e
    subst e; exact hc u m'
/-- an owned cell is written -/
theorem Ov.write {B : Hp} {c : Fp} {H : Hp} {p : Addr} {o : HO} (h : Ov B ((p, o) :: c) H) (o' : HO) (k : isCell o' = true := by rfl) : Ov B ((p, o') :: c) (upd H p o') := by
  have nd := h.nd
  rw [List.map_cons, List.nodup_cons] at nd
  have hc : ∀ u, (p, u) ∉ c := fun u m => nd.1 (List.mem_map.mpr ⟨_, m, rfl⟩)
  refine ⟨fun a u m => ?_, fun a hn => ?_, by rw [List.map_cons, List.nodup_cons]; exact nd, fun a u m => (List.mem_cons.mp m).elim (fun e => by cases e; exact k) (fun m => h.ck a u (List.mem_cons_of_mem _ m))⟩
  · rcases List.mem_cons.mp m with e | m'
    · cases e; exact ⟨upd_same, (h.own _ _ List.mem_cons_self).2⟩
    · have ne : a ≠ p := by rintro rfl; exact hc u m'
      rw [upd_ne ne]; exact h.own a u (List.mem_cons_of_mem _ m')
  · have ne : a ≠ p := by rintro rfl; exact hn o' List.mem_cons_self
    rw [upd_ne ne]
    refine h.frz a fun u m => ?_
    rcases List.mem_cons.mp m with e | m
    · cases e; exact ne rfl
    · exact hn u (List.mem_cons_of_mem _ m)
/-- owned cells are frozen -/
theorem Ov.absorb {B : Hp} {f c : Fp} {H : Hp} (h : Ov B (f ++ c) H) : ∃ B', Le B B' ∧ (∀ a o, (a, o) ∈ f → B' a = some o) ∧ Ov B' c H := by
  have nd := h.nd
  rw [List.map_append, List.nodup_append] at nd
  refine ⟨fun a => if a ∈ f.map (·.1) then H a else B a, fun a o e => ?_, fun a o m => ?_, ⟨fun a o m => ?_, fun a hn => ?_, nd.2.1, fun a o m => h.ck a o (List.mem_append_right _ m)⟩⟩
  · show (if a ∈ f.map (·.1) then H a else B a) = _
    split
    · exact h.le a o e
    · exact e
  · show (if a ∈ f.map (·.1) then H a else B a) = _
    rw [if_pos (List.mem_map.mpr ⟨_, m, rfl⟩)]
    exact (h.own a o (List.mem_append_left _ m)).1
  · have ma : a ∈ c.map (·.1) := List.mem_map.mpr ⟨_, m, rfl⟩
    refine ⟨(h.own a o (List.mem_append_right _ m)).1, ?_⟩
    show (if a ∈ f.map (·.1) then H a else B a) = _
    rw [if_neg fun q => nd.2.2 a q a ma rfl]
    exact (h.own a o (List.mem_append_right _ m)).2
  · show H a = (if a ∈ f.map (·.1) then H a else B a)
    split
    · rfl
    · rename_i q
      refine h.frz a fun o m => ?_
      rcases List.mem_append.mp m with m | m
      · exact q (List.mem_map.mpr ⟨_, m, rfl⟩)
      · exact hn o m
def kD : Key → D
  | .inl i => .int i
  | .inr x => .str x
def ktD (k : List Key) : D := .tuple (k.map kD)
/-- a list that is only read (the script) -/
def rdD (ds : List D) : D := .dict [(.none, .list ds)]
/-- at e: an error of the class at C, its dict at dd -/
def errO (C dd e : Addr) : HO := .ext fun h => ∃ oe vs, h.get? e = some oe ∧ oe.cls = .ref C ∧ oe.dict = some dd ∧ oe.data = .fields vs
/-- the class that a name of the program stands for -/
def clK (K : PySem.W.Frag) (x : Str) : Option Addr := match PySem.W.nsIn K mainGlobals x with
  | some (some (.ref a)) => some a
  | _ => none
/-- an error of ours: its class and what it holds -/
def erD (x : Str) (i : Int) : D := .dict [(.none, .tuple [.str x, .int i])]
mutual
inductive Dq (K : PySem.W.Frag) (B : Hp) : V → D → Prop
  | non : Dq K B .non .none
  | bl (b : Bool) : Dq K B (.bl b) (.bool b)
  | int (i : Int) : Dq K B (.int i) (.int i)
  | str (x : Str) : Dq K B (.str x) (.str x)
  | lst {a : Addr} {xs : List V} {ds : List D} : B a = some (.lst xs) → xs.length ≤ sizeLine → DqL K B xs ds → Dq K B (.ref a) (.list ds)
  | rdl {a : Addr} {xs : List V} {ds : List D} : SqL K B a xs → DqL K B xs ds → Dq K B (.ref a) (.dict [(.none, .list ds)])
  | er {a C dd : Addr} {x : Str} {i : Int} : B a = some (errO C dd a) → B dd = some (.xd [(("at" : Str), V.int i)]) → clK K x = some C → Dq K B (.ref a) (.dict [(.none, .tuple [.str x, .int i])])
  | tup {a : Addr} {xs : List V} {ds : List D} : SqT K B a xs → xs.length ≤ sizeLine → DqL K B xs ds → Dq K B (.ref a) (.tuple ds)
  | dk {a : Addr} {kvs : List (Key × V)} {ds : List (D × D)} : B a = some (.dK kvs) → DqK K B kvs ds → Dq K B (.ref a) (.dict ds)
  | dt {a : Addr} {kvs : List (List Key × V)} {ds : List (D × D)} : B a = some (.dT kvs) → DqT K B kvs ds → Dq K B (.ref a) (.dict ds)
inductive DqL (K : PySem.W.Frag) (B : Hp) : List V → List D → Prop
  | nil : DqL K B [] []
  | cons {v : V} {vs : List V} {d : D} {ds : List D} : Dq K B v d → DqL K B vs ds → DqL K B (v :: vs) (d :: ds)
inductive DqK (K : PySem.W.Frag) (B : Hp) : List (Key × V) → List (D × D) → Prop
  | nil : DqK K B [] []
  | cons {k : Key} {v : V} {d : D} {vs : List (Key × V)} {ds : List (D × D)} : Dq K B v d → DqK K B vs ds → DqK K B ((k, v) :: vs) ((kD k, d) :: ds)
inductive DqT (K : PySem.W.Frag) (B : Hp) : List (List Key × V) → List (D × D) → Prop
  | nil : DqT K B [] []
  | cons {k : List Key} {v : V} {d : D} {vs : List (List Key × V)} {ds : List (D × D)} : Dq K B v d → DqT K B vs ds → DqT K B ((k, v) :: vs) ((ktD k, d) :: ds)
end
theorem Le.sql {K : PySem.W.Frag} {B B' : Hp} (e : Le B B') {a : Addr} {xs : List V} (h : SqL K B a xs) : SqL K B' a xs := by
  rcases h with (h | ⟨o, h⟩) | h
  · exact .inl (.inl (e _ _ h))
  · exact .inl (.inr ⟨o, e _ _ h⟩)
  · exact .inr h
theorem Le.sqt {K : PySem.W.Frag} {B B' : Hp} (e : Le B B') {a : Addr} {xs : List V} (h : SqT K B a xs) : SqT K B' a xs := by
  rcases h with (h | ⟨o, h⟩) | h
  · exact .inl (.inl (e _ _ h))
  · exact .inl (.inr ⟨o, e _ _ h⟩)
  · exact .inr h
section
variable {K : PySem.W.Frag} {B B' : Hp}
mutual
theorem Dq.mono (e : Le B B') : ∀ (d : D) (v : V), Dq K B v d → Dq K B' v d
  | .none, _, h => by cases h; exact .non
  | .bool b, _, h => by cases h; exact .bl b
  | .int i, _, h => by cases h; exact .int i
  | .str x, _, h => by cases h; exact .str x
  | .list ds, _, h => by
    cases h with
    | lst s z r => exact .lst (e _ _ s) z (DqL.mono e ds _ r)
  | .tuple ds, _, h => by
    cases h with
    | tup s z r => exact .tup (e.sqt s) z (DqL.mono e ds _ r)
  | .dict ds, _, h => by
    cases h with
    | dk s r => exact .dk (e _ _ s) (DqK.mono e ds _ r)
    | dt s r => exact .dt (e _ _ s) (DqT.mono e ds _ r)
    | rdl s r => exact .rdl (e.sql s) (DqL.mono e _ _ r)
    | er h1 h2 h3 => exact .er (e _ _ h1) (e _ _ h2) h3
theorem DqL.mono (e : Le B B') : ∀ (ds : List D) (vs : List V), DqL K B vs ds → DqL K B' vs ds
  | [], _, h => by cases h; exact .nil
  | d :: ds, _, h => by
    cases h with
    | cons x r => exact .cons (Dq.mono e d _ x) (DqL.mono e ds _ r)
theorem DqK.mono (e : Le B B') : ∀ (ds : List (D × D)) (vs : List (Key × V)), DqK K B vs ds → DqK K B' vs ds
  | [], _, h => by cases h; exact .nil
  | (_, d) :: ds, _, h => by
    cases h with
    | cons x r => exact .cons (Dq.mono e d _ x) (DqK.mono e ds _ r)
theorem DqT.mono (e : Le B B') : ∀ (ds : List (D × D)) (vs : List (List Key × V)), DqT K B vs ds → DqT K B' vs ds
  | [], _, h => by cases h; exact .nil
  | (_, d) :: ds, _, h => by
    cases h with
    | cons x r => exact .cons (Dq.mono e d _ x) (DqT.mono e ds _ r)
end
theorem Dq.le {d : D} {v : V} (h : Dq K B v d) (e : Le B B') : Dq K B' v d := Dq.mono e d v h
theorem DqL.le {d : List D} {v : List V} (h : DqL K B v d) (e : Le B B') : DqL K B' v d := DqL.mono e d v h
theorem DqL.length : ∀ {vs : List V} {ds : List D}, DqL K B vs ds → vs.length = ds.length
  | _, _, .nil => rfl
  | _, _, .cons _ t => congrArg (· + 1) (DqL.length t)
theorem DqL.app : ∀ {vs us : List V} {ds es : List D}, DqL K B vs ds → DqL K B us es → DqL K B (vs ++ us) (ds ++ es)
  | _, _, _, _, .nil, s => s
  | _, _, _, _, .cons r t, s => .cons r (DqL.app t s)
theorem DqL.get : ∀ {vs : List V} {ds : List D} {i : Nat} {d : D}, DqL K B vs ds → ds[i]? = some d → ∃ v, vs[i]? = some v ∧ Dq K B v d
  | _, _, _, _, .nil, e => by simp at e
  | _, _, 0, d, .cons r _, e => by simp at e; subst e; exact ⟨_, rfl, r⟩
  | _, _, i + 1, d, .cons _ t, e => by
    obtain ⟨u, h1, h2⟩ := DqL.get (i := i) (d := d) t (by simpa using e)
    exact ⟨u, by simpa using h1, h2⟩
theorem DqL.drop : ∀ {vs : List V} {ds : List D} (n : Nat), DqL K B vs ds → DqL K B (vs.drop n) (ds.drop n)
  | _, _, 0, r => r
  | _, _, _ + 1, .nil => .nil
  | _, _, n + 1, .cons _ t => DqL.drop n t
theorem DqL.rep {vs : List V} {ds : List D} (h : DqL K B vs ds) : ∀ k : Nat, DqL K B (List.replicate k vs).flatten (List.replicate k ds).flatten
  | 0 => .nil
  | k + 1 => by rw [List.replicate_succ, List.replicate_succ, List.flatten_cons, List.flatten_cons]; exact h.app (DqL.rep h k)
end
inductive All3 {α β : Type} (P : α → β → Fp → Prop) : List α → List β → Fp → Prop
  | nil : All3 P [] [] []
  | cons {a b F as bs Fs} : P a b F → All3 P as bs Fs → All3 P (a :: as) (b :: bs) (F ++ Fs)
/-- no list, no dict -/
def leaf : D → Bool
  | .list _ => false
  | .dict _ => false
  | _ => true
def Rp (K : PySem.W.Frag) (B : Hp) : Nat → V → D → Fp → Prop
  | 0, v, d, F => F = [] ∧ Dq K B v d
  | n + 1, v, d, F => (leaf d = true ∧ F = [] ∧ Dq K B v d) ∨
      (∃ a xs ds Fs, v = .ref a ∧ d = .list ds ∧ F = (a, .lst xs) :: Fs ∧ xs.length ≤ sizeLine ∧ All3 (Rp K B n) xs ds Fs) ∨
      (∃ (a : Addr) (kvs : List (Key × V)) (ds : List (D × D)) (Fs : Fp), v = .ref a ∧ d = .dict ds ∧ F = (a, .dK kvs) :: Fs ∧ All3 (fun p q F => q.1 = kD p.1 ∧ Rp K B n p.2 q.2 F) kvs ds Fs) ∨
      (∃ (a : Addr) (kvs : List (List Key × V)) (ds : List (D × D)) (Fs : Fp), v = .ref a ∧ d = .dict ds ∧ F = (a, .dT kvs) :: Fs ∧ All3 (fun p q F => q.1 = ktD p.1 ∧ Rp K B n p.2 q.2 F) kvs ds Fs)
/-- borrowed data: the lists of b levels may be owned by someone -/
def Bp (K : PySem.W.Frag) (B H : Hp) : Nat → V → D → Prop
  | 0, v, d => Dq K B v d
  | n + 1, v, d => Dq K B v d ∨
      (∃ a xs ds, v = .ref a ∧ d = .list ds ∧ H a = some (.lst xs) ∧ xs.length ≤ sizeLine ∧ Paired (Bp K B H n) xs ds) ∨
      (∃ (a : Addr) (kvs : List (Key × V)) (ds : List (D × D)), v = .ref a ∧ d = .dict ds ∧ H a = some (.dK kvs) ∧ Paired (fun p q => q.1 = kD p.1 ∧ Bp K B H n p.2 q.2) kvs ds) ∨
      (∃ (a : Addr) (kvs : List (List Key × V)) (ds : List (D × D)), v = .ref a ∧ d = .dict ds ∧ H a = some (.dT kvs) ∧ Paired (fun p q => q.1 = ktD p.1 ∧ Bp K B H n p.2 q.2) kvs ds)
theorem All3.imp {α β : Type} {P P' : α → β → Fp → Prop} {as : List α} {bs : List β} {F : Fp} (h : All3 P as bs F) (f : ∀ a b F, P a b F → P' a b F) : All3 P' as bs F := by
  induction h with
  | nil => exact .nil
  | cons r _ ih => exact .cons (f _ _ _ r) ih
theorem All3.length {α β : Type} {P : α → β → Fp → Prop} {as : List α} {bs : List β} {F : Fp} (h : All3 P as bs F) : as.length = bs.length := by
  induction h with
  | nil => rfl
  | cons _ _ ih => rw [List.length_cons, List.length_cons, ih]
theorem All3.app {α β : Type} {P : α → β → Fp → Prop} {as as' : List α} {bs bs' : List β} {F F' : Fp} (h : All3 P as bs F) (g : All3 P as' bs' F') : All3 P (as ++ as') (bs ++ bs') (F ++ F') := by
  induction h with
  | nil => exact g
  | cons r _ ih => rw [List.append_assoc]; exact .cons r ih
theorem All3.paired {α β : Type} {P : α → β → Fp → Prop} {Q : α → β → Prop} {as : List α} {bs : List β} {F : Fp} (h : All3 P as bs F) : (∀ a b G, P a b G → (∀ x ∈ G, x ∈ F) → Q a b) → Paired Q as bs := by
  induction h with
  | nil => intro _; exact .nil
  | cons r _ ih => intro f; exact .cons (f _ _ _ r fun x m => List.mem_append_left _ m) (ih fun a b G p m => f a b G p fun x y => List.mem_append_right _ (m x y))
/-- an item is taken out -/
theorem All3.at {α β : Type} {P : α → β → Fp → Prop} {as : List α} {bs : List β} {F : Fp} (h : All3 P as bs F) : ∀ {i : Nat} {b : β}, bs[i]? = some b → ∃ a G F1 F2, as[i]? = some a ∧ P a b G ∧ F = F1 ++ (G ++ F2) ∧
    ∀ a' b' G', P a' b' G' → All3 P (as.set i a') (bs.set i b') (F1 ++ (G' ++ F2)) := by
  induction h with
  | nil => intro i b e; simp at e
  | @cons a0 b0 F0 as bs Fs r t ih =>
    intro i b e
    cases i with
    | zero =>
      simp at e; subst e
      exact ⟨a0, F0, [], Fs, rfl, r, rfl, fun a' b' G' q => (show All3 P (a' :: as) (b' :: bs) (G' ++ Fs) from .cons q t)⟩
    | succ i =>
      obtain ⟨a, G, F1, F2, h1, h2, h3, h4⟩ := ih (i := i) (b := b) (by simpa using e)
      refine ⟨a, G, F0 ++ F1, F2, by simpa using h1, h2, by rw [h3, List.append_assoc], fun a' b' G' q => ?_⟩
      rw [List.append_assoc]
      exact .cons r (h4 a' b' G' q)
section
variable {K : PySem.W.Frag} {B B' H H' : Hp}
theorem Rp.le (e : Le B B') : ∀ {n : Nat} {v : V} {d : D} {F : Fp}, Rp K B n v d F → Rp K B' n v d F
  | 0, _, _, _, ⟨h1, h2⟩ => ⟨h1, h2.le e⟩
  | n + 1, _, _, _, h => by
    rcases h with ⟨h0, h1, h2⟩ | ⟨a, xs, ds, Fs, e1, e2, e3, hz, h⟩ | ⟨a, xs, ds, Fs, e1, e2, e3, h⟩ | ⟨a, xs, ds, Fs, e1, e2, e3, h⟩
    · exact .inl ⟨h0, h1, h2.le e⟩
    · exact .inr (.inl ⟨a, xs, ds, Fs, e1, e2, e3, hz, h.imp fun _ _ _ q => Rp.le e q⟩)
    · exact .inr (.inr (.inl ⟨a, xs, ds, Fs, e1, e2, e3, h.imp fun _ _ _ q => ⟨q.1, Rp.le e q.2⟩⟩))
    · exact .inr (.inr (.inr ⟨a, xs, ds, Fs, e1, e2, e3, h.imp fun _ _ _ q => ⟨q.1, Rp.le e q.2⟩⟩))
theorem Rp.bp (eH : Le B H) : ∀ {n : Nat} {v : V} {d : D} {F : Fp}, Rp K B n v d F → (∀ a o, (a, o) ∈ F → H a = some o) → Bp K B H n v d
  | 0, _, _, _, ⟨h1, h2⟩, _ => h2
  | n + 1, _, _, _, h, m => by
    rcases h with ⟨h0, h1, h2⟩ | ⟨a, xs, ds, Fs, e1, e2, e3, hz, h⟩ | ⟨a, xs, ds, Fs, e1, e2, e3, h⟩ | ⟨a, xs, ds, Fs, e1, e2, e3, h⟩
    · exact .inl h2
    · subst e3
      exact .inr (.inl ⟨a, xs, ds, e1, e2, m _ _ List.mem_cons_self, hz, h.paired fun x y G q mm => Rp.bp eH q fun b o z => m b o (List.mem_cons_of_mem _ (mm _ z))⟩)
    · subst e3
      exact .inr (.inr (.inl ⟨a, xs, ds, e1, e2, m _ _ List.mem_cons_self, h.paired fun x y G q mm => ⟨q.1, Rp.bp eH q.2 fun b o z => m b o (List.mem_cons_of_mem _ (mm _ z))⟩⟩))
    · subst e3
      exact .inr (.inr (.inr ⟨a, xs, ds, e1, e2, m _ _ List.mem_cons_self, h.paired fun x y G q mm => ⟨q.1, Rp.bp eH q.2 fun b o z => m b o (List.mem_cons_of_mem _ (mm _ z))⟩⟩))
theorem dqL_of : ∀ {xs : List V} {ds : List D}, Paired (Dq K B) xs ds → DqL K B xs ds
  | _, _, .nil => .nil
  | _, _, .cons r t => .cons r (dqL_of t)
theorem of_dqL : ∀ {xs : List V} {ds : List D}, DqL K B xs ds → Paired (Dq K B) xs ds
  | _, _, .nil => .nil
  | _, _, .cons r t => .cons r (of_dqL t)
theorem dqK_of : ∀ {xs : List (Key × V)} {ds : List (D × D)}, Paired (fun p q => q.1 = kD p.1 ∧ Dq K B p.2 q.2) xs ds → DqK K B xs ds
  | _, _, .nil => .nil
  | _, (_, _) :: _, .cons ⟨rfl, r⟩ t => .cons r (dqK_of t)
theorem dqT_of : ∀ {xs : List (List Key × V)} {ds : List (D × D)}, Paired (fun p q => q.1 = ktD p.1 ∧ Dq K B p.2 q.2) xs ds → DqT K B xs ds
  | _, _, .nil => .nil
  | _, (_, _) :: _, .cons ⟨rfl, r⟩ t => .cons r (dqT_of t)
theorem Bp.dq (eH : Le B H) : ∀ {n : Nat} {v : V} {d : D}, Bp K B H n v d → Dq K H v d
  | 0, _, _, h => Dq.le h eH
  | n + 1, _, _, h => by
    rcases h with h2 | ⟨a, xs, ds, e1, e2, h1, hz, h2⟩ | ⟨a, xs, ds, e1, e2, h1, h2⟩ | ⟨a, xs, ds, e1, e2, h1, h2⟩
    · exact Dq.le h2 eH
    · subst e1 e2; exact .lst h1 hz (dqL_of (L2.Paired.mapP h2 fun _ _ q => Bp.dq eH q))
    · subst e1 e2; exact .dk h1 (dqK_of (L2.Paired.mapP h2 fun _ _ q => ⟨q.1, Bp.dq eH q.2⟩))
    · subst e1 e2; exact .dt h1 (dqT_of (L2.Paired.mapP h2 fun _ _ q => ⟨q.1, Bp.dq eH q.2⟩))
theorem Bp.le (e : Le B B') (eH : Le H H') : ∀ {n : Nat} {v : V} {d : D}, Bp K B H n v d → Bp K B' H' n v d
  | 0, _, _, h => Dq.le h e
  | n + 1, _, _, h => by
    rcases h with h2 | ⟨a, xs, ds, e1, e2, h1, hz, h2⟩ | ⟨a, xs, ds, e1, e2, h1, h2⟩ | ⟨a, xs, ds, e1, e2, h1, h2⟩
    · exact .inl (Dq.le h2 e)
    · exact .inr (.inl ⟨a, xs, ds, e1, e2, eH _ _ h1, hz, L2.Paired.mapP h2 fun _ _ q => Bp.le e eH q⟩)
    · exact .inr (.inr (.inl ⟨a, xs, ds, e1, e2, eH _ _ h1, L2.Paired.mapP h2 fun _ _ q => ⟨q.1, Bp.le e eH q.2⟩⟩))
    · exact .inr (.inr (.inr ⟨a, xs, ds, e1, e2, eH _ _ h1, L2.Paired.mapP h2 fun _ _ q => ⟨q.1, Bp.le e eH q.2⟩⟩))
theorem Bp.of {b : Nat} {v : V} {d : D} (h : Dq K B v d) : Bp K B H b v d := by
  cases b with
  | zero => exact h
  | succ b => exact .inl h
/-- what is owned is frozen -/
theorem Rp.dq {n : Nat} {v : V} {d : D} {F : Fp} (h : Rp K B n v d F) (e : Le B B') (m : ∀ a o, (a, o) ∈ F → B' a = some o) : Dq K B' v d :=
  (Rp.bp (H := B') e h m).dq e
theorem Rp.frz {n : Nat} {v : V} {d : D} (h : Dq K B v d) (l : n = 0 ∨ leaf d = true) : Rp K B n v d [] := by
  cases n with
  | zero => exact ⟨rfl, h⟩
  | succ n =>
    rcases l with l | l
    · cases l
    · exact .inl ⟨l, rfl, h⟩
end
section
variable {K : PySem.W.Frag}
theorem All3.weakG {α β : Type} {P P' : Hp → α → β → Fp → Prop} (mono : ∀ B B' a b f, Le B B' → P' B a b f → P' B' a b f) (monoP : ∀ B B' a b f, Le B B' → P B a b f → P B' a b f)
    (one : ∀ B a b f c H, P B a b f → Ov B (f ++ c) H → ∃ B' f', Le B B' ∧ Ov B' (f' ++ c) H ∧ P' B' a b f') {as : List α} : ∀ {bs : List β} {B : Hp} {F c : Fp} {H : Hp}, All3 (P B) as bs F → Ov B (F ++ c) H →
      ∃ B' F', Le B B' ∧ Ov B' (F' ++ c) H ∧ All3 (P' B') as bs F' := by
  induction as with
  | nil => intro bs B F c H h o; cases h; exact ⟨B, [], Le.refl _, o, .nil⟩
  | cons a as ih =>
    intro bs B F c H h o
    cases h with
    | @cons _ b F0 _ bs Fs r t =>
      rw [List.append_assoc] at o
      obtain ⟨B1, f1, l1, o1, q1⟩ := one B a b F0 (Fs ++ c) H r o
      have o1' : Ov B1 (Fs ++ (f1 ++ c)) H := o1.perm (by
        rw [← List.append_assoc, ← List.append_assoc]
        exact List.Perm.append_right _ List.perm_append_comm)
      obtain ⟨B2, f2, l2, o2, q2⟩ := ih (t.imp fun _ _ _ q => monoP _ _ _ _ _ l1 q) o1'
      refine ⟨B2, f1 ++ f2, l1.trans l2, o2.perm ?_, .cons (mono _ _ _ _ _ l2 q1) q2⟩
      rw [List.append_assoc, ← List.append_assoc, ← List.append_assoc]
      exact List.Perm.append_right _ List.perm_append_comm
/-- less is owned -/
theorem Rp.weak : ∀ {m n : Nat}, m ≤ n → ∀ {B : Hp} {v : V} {d : D} {F c : Fp} {H : Hp}, Rp K B n v d F → Ov B (F ++ c) H → ∃ B' F', Le B B' ∧ Ov B' (F' ++ c) H ∧ Rp K B' m v d F'
  | 0, n, _, B, v, d, F, c, H, h, o => by
    obtain ⟨B', l, m, o'⟩ := o.absorb
    exact ⟨B', [], l, o', rfl, h.dq l m⟩
  | m + 1, 0, l, _, _, _, _, _, _, _, _ => absurd l (Nat.not_succ_le_zero _)
  | m + 1, n + 1, l, B, v, d, F, c, H, h, o => by
    have l' := Nat.le_of_succ_le_succ l
    rcases h with ⟨h0, h1, h2⟩ | ⟨a, xs, ds, Fs, e1, e2, e3, hz, h⟩ | ⟨a, xs, ds, Fs, e1, e2, e3, h⟩ | ⟨a, xs, ds, Fs, e1, e2, e3, h⟩
    · exact ⟨B, F, Le.refl _, o, .inl ⟨h0, h1, h2⟩⟩
    · subst e3
      have o1 : Ov B (Fs ++ ((a, .lst xs) :: c)) H := o.perm List.perm_middle.symm
      obtain ⟨B', F', l1, o2, q⟩ := All3.weakG (P := fun B => Rp K B n) (P' := fun B => Rp K B m) (fun _ _ _ _ _ e q => q.le e) (fun _ _ _ _ _ e q => q.le e) (fun B a b f c H q o => Rp.weak l' q o) h o1
      exact ⟨B', (a, .lst xs) :: F', l1, o2.perm List.perm_middle, .inr (.inl ⟨a, xs, ds, F', e1, e2, rfl, hz, q⟩)⟩
    · subst e3
      have o1 : Ov B (Fs ++ ((a, .dK xs) :: c)) H := o.perm List.perm_middle.symm
      obtain ⟨B', F', l1, o2, q⟩ := All3.weakG (P := fun B (p : Key × V) (q : D × D) F => q.1 = kD p.1 ∧ Rp K B n p.2 q.2 F) (P' := fun B (p : Key × V) (q : D × D) F => q.1 = kD p.1 ∧ Rp K B m p.2 q.2 F) (fun _ _ _ _ _ e q => ⟨q.1, q.2.le e⟩) (fun _ _ _ _ _ e q => ⟨q.1, q.2.le e⟩)
        (fun B a b f c H q o => by obtain ⟨B', F', x, y, z⟩ := Rp.weak l' q.2 o; exact ⟨B', F', x, y, q.1, z⟩) h o1
      exact ⟨B', (a, .dK xs) :: F', l1, o2.perm List.perm_middle, .inr (.inr (.inl ⟨a, xs, ds, F', e1, e2, rfl, q⟩))⟩
    · subst e3
      have o1 : Ov B (Fs ++ ((a, .dT xs) :: c)) H := o.perm List.perm_middle.symm
      obtain ⟨B', F', l1, o2, q⟩ := All3.weakG (P := fun B (p : List Key × V) (q : D × D) F => q.1 = ktD p.1 ∧ Rp K B n p.2 q.2 F) (P' := fun B (p : List Key × V) (q : D × D) F => q.1 = ktD p.1 ∧ Rp K B m p.2 q.2 F) (fun _ _ _ _ _ e q => ⟨q.1, q.2.le e⟩) (fun _ _ _ _ _ e q => ⟨q.1, q.2.le e⟩)
        (fun B a b f c H q o => by obtain ⟨B', F', x, y, z⟩ := Rp.weak l' q.2 o; exact ⟨B', F', x, y, q.1, z⟩) h o1
      exact ⟨B', (a, .dT xs) :: F', l1, o2.perm List.perm_middle, .inr (.inr (.inr ⟨a, xs, ds, F', e1, e2, rfl, q⟩))⟩
end
end DL
set_option Elab.async false
set_option linter.all false
set_option maxRecDepth 100000
set_option maxHeartbeats 1000000
namespace DL
open PySem PySem.Spec PyProof.Rows L2
inductive R (α : Type) where
  | ok (a : α)
  | exc (c : Str) (i : D)
  | stuck
def R.bind {α β : Type} (x : R α) (f : α → R β) : R β := match x with
  | .ok a => f a
  | .exc c i => .exc c i
  | .stuck => .stuck
/-- no error may leave a comprehension -/
def R.noX {α : Type} (x : R α) : R α := match x with
  | .ok a => .ok a
  | _ => .stuck
inductive B2 where
  | add | sub | mul | fdiv | mod | pow | shl | shr | band | bor
  deriving DecidableEq
inductive Cp where
  | eq | ne | lt | le | gt | ge | inn | nin | isn | isnn | isb | isnb
  deriving DecidableEq
inductive Bi where
  | len | abs | int | min2 | all | gcd
  deriving DecidableEq
inductive OS where
  | own (n : Nat) | bor (b : Nat) | dead
  deriving DecidableEq
/-- a slot's kind: a value's, or lent by the slot o (its items, b levels) -/
inductive SK where
  | e (κ : OS) | lent (b o : Nat)
  deriving DecidableEq
inductive Tg where
  | nm (i : Nat) | nil | cons (t ts : Tg) | tp (ts : Tg)
/-- what a clause returns: the error's at, or a text and it -/
inductive HE where
  | at_ | tupS (s : Str) | obj
inductive C where
  | var (i : Nat) | cI (i : Int) | cB (b : Bool) | cS (s : Str) | cN | gI (x : Str) (i : Int)
  | bin (o : B2) (a b : C) | neg (a : C) | not (a : C) | and (es : C) | or (es : C)
  | cmp (o : Cp) (a b : C) | chn (o p : Cp) (a b c : C)
  | nil | cons (a as : C) | tup (es : C) | lst (es : C)
  | ix (a i : C) | none_
  | call (f : Nat) (es : C) | callS (f : Nat) (es : C) | bi (b : Bi) (es : C)
  | lc (elt : C) (t : Tg) (it : C) (cond : C) (own : List Nat)
  | isi (t : Str) (a : C)
  | mk (x : Str) (a : C) | isE (x : Str) (cs : List Str) (a : C) | att (cs : List Str) (a : C)
  | itv (a : C) | rng1 (a : C) | enm (a : C)
inductive S where
  | nil | seq (a b : S) | fgt (l : List Nat) | frz (n : Nat) (l : List Nat)
  | asg (t : Tg) (e : C)
  | app (i : Nat) (e : C)
  | ife (c : C) (a b : S) | for_ (t : Tg) (it : C) (b : S)
  | ret (e : C) | retN | brk | cnt | pas | nev | expr (e : C)
  | rse (x : Str) (e : C) | try_ (b : S) (hs : List (Str × Nat × HE))
abbrev En := List (Option D)
def sz (n : Nat) : Bool := decide (n ≤ sizeLine)
def truthy : D → Bool
  | .none => false
  | .bool b => b
  | .int i => i != 0
  | .str x => x.length != 0
  | .list xs => !xs.isEmpty
  | .tuple xs => !xs.isEmpty
  | .dict xs => !xs.isEmpty
def tOk : D → Bool
  | .str x => sz x.length
  | .dict _ => false
  | _ => true
def guard {α : Type} (b : Bool) (x : R α) : R α := if b then x else .stuck
/-- a test's answer -/
def tst (d : D) : R Bool := guard (tOk d) (.ok (truthy d))
def evBin : B2 → D → D → R D
  | .add, .int i, .int j => .ok (.int (i + j))
  | .add, .list xs, .list ys => guard (sz (xs.length + ys.length)) (.ok (.list (xs ++ ys)))
  | .add, .tuple xs, .tuple ys => guard (sz (xs.length + ys.length)) (.ok (.tuple (xs ++ ys)))
  | .sub, .int i, .int j => .ok (.int (i - j))
  | .mul, .int i, .int j => guard (decide (i.natAbs.log2 + j.natAbs.log2 < 1000000)) (.ok (.int (i * j)))
  | .mul, .list xs, .int k => guard (decide (-(2 ^ 63) ≤ k) && decide (k < 2 ^ 63) && sz (xs.length * k.toNat)) (.ok (.list (List.replicate k.toNat xs).flatten))
  | .fdiv, .int i, .int j => guard (decide (0 < j) && decide (j.natAbs.log2 < 9000)) (.ok (.int (i / j)))
  | .mod, .int i, .int j => guard (decide (0 < j)) (.ok (.int (i % j)))
  | .pow, .int i, .int j => guard (decide (0 ≤ j) && decide (j ≤ 1000000) && decide (i.natAbs < 2 ^ 64)) (.ok (.int (i ^ j.toNat)))
  | _, _, _ => .stuck
def isNoneD : D → Bool
  | .none => true
  | _ => false
def evCp : Cp → D → D → R D
  | .eq, d, e => guard (SeqAt.shaped d && SeqAt.shaped e) (.ok (.bool (PyData.eqv d e)))
  | .ne, d, e => guard (SeqAt.shaped d && SeqAt.shaped e) (.ok (.bool (!PyData.eqv d e)))
  | .lt, .int i, .int j => .ok (.bool (decide (i < j)))
  | .le, .int i, .int j => .ok (.bool (decide (i ≤ j)))
  | .gt, .int i, .int j => .ok (.bool (decide (j < i)))
  | .ge, .int i, .int j => .ok (.bool (decide (j ≤ i)))
  | .inn, d, .list ds => guard (SeqAt.shaped d && SeqAt.shaped (.list ds)) (.ok (.bool (ds.any fun z => PyData.eqv z d)))
  | .nin, d, .list ds => guard (SeqAt.shaped d && SeqAt.shaped (.list ds)) (.ok (.bool (!ds.any fun z => PyData.eqv z d)))
  | .inn, d, .tuple ds => guard (SeqAt.shaped d && SeqAt.shaped (.tuple ds)) (.ok (.bool (ds.any fun z => PyData.eqv z d)))
  | .nin, d, .tuple ds => guard (SeqAt.shaped d && SeqAt.shaped (.tuple ds)) (.ok (.bool (!ds.any fun z => PyData.eqv z d)))
  | .isn, d, .none => .ok (.bool (isNoneD d))
  | .isnn, d, .none => .ok (.bool (!isNoneD d))
  | .isb, .bool a, .bool b => .ok (.bool (decide (a = b)))
  | .isnb, .bool a, .bool b => .ok (.bool (!decide (a = b)))
  | _, _, _ => .stuck
def boolsD : List D → Option (List Bool)
  | [] => some []
  | .bool i :: r => (boolsD r).map (i :: ·)
  | _ => none
def rdOf : List (D × D) → Option (List D)
  | [(.none, .list xs)] => some xs
  | _ => none
def evBi : Bi → List D → R D
  | .len, [.list xs] => .ok (.int xs.length)
  | .len, [.tuple xs] => .ok (.int xs.length)
  | .len, [.dict kvs] => match rdOf kvs with
    | some xs => .ok (.int xs.length)
    | none => .stuck
  | .abs, [.int i] => .ok (.int (if i < 0 then -i else i))
  | .int, [.int i] => .ok (.int i)
  | .int, [.bool b] => .ok (.int (if b then 1 else 0))
  | .min2, [.int i, .int j] => .ok (.int (if j < i then j else i))
  | .gcd, [.int i, .int j] => .ok (.int (Nat.gcd i.natAbs j.natAbs : Nat))
  | .all, [.list xs] => match boolsD xs with
    | some bs => .ok (.bool (bs.all id))
    | none => .stuck
  | _, _ => .stuck
/-- an index of any sign -/
def evIx : D → D → R D
  | .list xs, .int i => match atI xs i with
    | some d => .ok d
    | none => .stuck
  | .tuple xs, .int i => match atI xs i with
    | some d => .ok d
    | none => .stuck
  | .dict kvs, .int i => match rdOf kvs with
    | some xs => (match atI xs i with
      | some d => .ok d
      | none => .stuck)
    | none => .stuck
  | _, _ => .stuck
def scalar : D → Bool
  | .none => true
  | .bool _ => true
  | .int _ => true
  | .str _ => true
  | _ => false
/-- is it of this built-in type? -/
def tyD : D → Str
  | .none => "NoneType"
  | .bool _ => "bool"
  | .int _ => "int"
  | .str _ => "str"
  | .list _ => "list"
  | .tuple _ => "tuple"
  | .dict _ => "dict"
def isDict : D → Bool
  | .dict _ => true
  | _ => false
def isBo : D → Bool
  | .bool _ => true
  | _ => false
def evIsi (t : Str) (d : D) : R D := guard (!isDict d && !(isBo d && decide (t = ("int" : Str)))) (.ok (.bool (decide (tyD d = t))))
/-- an error of ours -/
def errOf : D → Option (Str × Int)
  | .dict [(.none, .tuple [.str x, .int i])] => some (x, i)
  | _ => none
/-- does a clause take an error? -/
def exm (x c : Str) : Bool := decide (x = c) || decide (x = ("HallError" : Str))
mutual
def bindT : Tg → D → En → R En
  | .nm i, d, ρ => .ok (ρ.set i (some d))
  | .tp ts, d, ρ => match d with
    | .tuple ds => bindTs ts ds ρ
    | _ => .stuck
  | .nil, _, _ => .stuck
  | .cons _ _, _, _ => .stuck
def bindTs : Tg → List D → En → R En
  | .nil, ds, ρ => match ds with
    | [] => .ok ρ
    | _ :: _ => .stuck
  | .cons t ts, ds, ρ => match ds with
    | d :: ds => (bindT t d ρ).bind fun ρ1 => bindTs ts ds ρ1
    | [] => .stuck
  | .nm _, _, _ => .stuck
  | .tp _, _, _ => .stuck
end
def wipeD (ρ : En) : List Nat → En
  | [] => ρ
  | v :: vs => (wipeD ρ vs).set v none
/-- a comprehension's turns -/
def lcGo {α : Type} (bind : D → En → R En) (cond : En → R D) (elt : En → R α) (ρ : En) : List D → R (List α)
  | [] => .ok []
  | d :: ds => (bind d ρ).noX.bind fun ρ1 => ((cond ρ1).bind tst).noX.bind fun c => if c then (elt ρ1).noX.bind fun x => (lcGo bind cond elt ρ ds).bind fun xs => .ok (x :: xs) else lcGo bind cond elt ρ ds
def ups (n : Nat) (lo : Int) : List D := (List.range n).map fun k => .int (lo + (k : Nat))
def enmD : Nat → List D → List D
  | _, [] => []
  | k, a :: as => .tuple [.int k, a] :: enmD (k + 1) as
def isOff : C → Bool
  | .none_ => true
  | _ => false
def isNil : C → Bool
  | .nil => true
  | _ => false
section
variable (Φ : Nat → List D → R D)
mutual
def evE : C → En → R D
  | .var i, ρ => match ρ[i]? with
    | some (some d) => .ok d
    | _ => .stuck
  | .cI i, _ => .ok (.int i)
  | .cB b, _ => .ok (.bool b)
  | .cS s, _ => .ok (.str s)
  | .cN, _ => .ok .none
  | .gI _ i, _ => .ok (.int i)
  | .bin o a b, ρ => (evE a ρ).bind fun x => (evE b ρ).bind fun y => evBin o x y
  | .neg a, ρ => (evE a ρ).bind fun x => match x with
    | .int i => .ok (.int (-i))
    | _ => .stuck
  | .not a, ρ => ((evE a ρ).bind tst).bind fun x => .ok (.bool (!x))
  | .and es, ρ => evA es ρ
  | .or es, ρ => evO es ρ
  | .cmp o a b, ρ => (evE a ρ).bind fun x => (evE b ρ).bind fun y => evCp o x y
  | .chn o p a b c, ρ => (evE a ρ).bind fun x => (evE b ρ).bind fun y => ((evCp o x y).bind tst).bind fun r => if r then (evE c ρ).bind fun z => evCp p y z else .ok (.bool false)
  | .nil, _ => .stuck
  | .cons _ _, _ => .stuck
  | .none_, _ => .ok .none
  | .tup es, ρ => (evL es ρ).bind fun ds => guard (sz ds.length) (.ok (.tuple ds))
  | .lst es, ρ => (evL es ρ).bind fun ds => guard (sz ds.length) (.ok (.list ds))
  | .ix a i, ρ => (evE a ρ).bind fun x => (evE i ρ).bind fun y => evIx x y
  | .call f es, ρ => (evL es ρ).bind fun ds => Φ f ds
  | .callS f es, ρ => (evL es ρ).bind fun ds => (Φ f ds).bind fun d => guard (scalar d) (.ok d)
  | .bi b es, ρ => (evL es ρ).bind fun ds => evBi b ds
  | .lc elt t it cond own, ρ => (evI it ρ).bind fun ds => (lcGo (bindT t) (fun ρ => if isOff cond then .ok (.bool true) else evE cond ρ) (evE elt) (wipeD ρ own) ds).bind fun xs => .ok (.list xs)
  | .isi t a, ρ => (evE a ρ).bind fun d => evIsi t d
  | .mk x a, ρ => (evE a ρ).bind fun d => match d with
    | .int i => .ok (erD x i)
    | _ => .stuck
  | .isE x cs a, ρ => (evE a ρ).bind fun d => match errOf d with
    | some (c, _) => guard (cs.contains c) (.ok (.bool (exm x c || decide (x = ("ValueError" : Str)))))
    | none => .stuck
  | .att cs a, ρ => (evE a ρ).bind fun d => match errOf d with
    | some (c, i) => guard (cs.contains c) (.ok (.int i))
    | none => .stuck
  | .itv _, _ => .stuck
  | .rng1 _, _ => .stuck
  | .enm _, _ => .stuck
def evL : C → En → R (List D)
  | .nil, _ => .ok []
  | .cons a as, ρ => (evE a ρ).bind fun x => (evL as ρ).bind fun xs => .ok (x :: xs)
  | _, _ => .stuck
def evA : C → En → R D
  | .cons a as, ρ => (evE a ρ).bind fun x => if isNil as then .ok x else (tst x).bind fun b => if b then evA as ρ else .ok x
  | _, _ => .stuck
def evO : C → En → R D
  | .cons a as, ρ => (evE a ρ).bind fun x => if isNil as then .ok x else (tst x).bind fun b => if b then .ok x else evO as ρ
  | _, _ => .stuck
def evI : C → En → R (List D)
  | .itv a, ρ => (evE a ρ).bind fun x => match x with
    | .list xs => .ok xs
    | _ => .stuck
  | .rng1 a, ρ => (evE a ρ).bind fun x => match x with
    | .int j => guard (decide (-(2 ^ 62) ≤ j) && sz j.toNat) (.ok (ups j.toNat 0))
    | _ => .stuck
  | .enm a, ρ => (evE a ρ).bind fun x => match x with
    | .list xs => .ok (enmD 0 xs)
    | _ => .stuck
  | _, _ => .stuck
end
inductive Res where
  | nx (ρ : En) | brk (ρ : En) | cnt (ρ : En) | ret (d : D) | exc (c : Str) (i : D) | stuck
/-- a value, then the rest -/
def R.go {α : Type} (x : R α) (f : α → Res) : Res := match x with
  | .ok a => f a
  | .exc c i => .exc c i
  | .stuck => .stuck
def Res.then (x : Res) (f : En → Res) : Res := match x with
  | .nx ρ => f ρ
  | r => r
def forF (bind : D → En → R En) (body : En → Res) : List D → En → Res
  | [], ρ => .nx ρ
  | d :: ds, ρ => (bind d ρ).noX.go fun ρ1 => match body ρ1 with
    | .nx ρ2 => forF bind body ds ρ2
    | .cnt ρ2 => forF bind body ds ρ2
    | .brk ρ2 => .nx ρ2
    | r => r
def appD (x e : D) : R D := match x with
  | .list xs => guard (decide (xs.length < sizeLine)) (.ok (.list (xs ++ [e])))
  | _ => .stuck
def asL : D → R D
  | .list xs => .ok (.list xs)
  | _ => .stuck
def getS (ρ : En) (i : Nat) : R D := match ρ[i]? with
  | some (some d) => .ok d
  | _ => .stuck
def heR : HE → Str → D → Res
  | .at_, _, i => .ret i
  | .tupS s, _, i => .ret (.tuple [.str s, i])
  | .obj, c, .int i => .ret (erD c i)
  | .obj, _, _ => .stuck
def hdl : List (Str × Nat × HE) → Str → D → Res
  | [], c, i => .exc c i
  | (x, _, h) :: r, c, i => if exm x c then heR h c i else hdl r c i
def evS : S → En → Res
  | .nil, ρ => .nx ρ
  | .seq a b, ρ => (evS a ρ).then fun ρ1 => evS b ρ1
  | .fgt l, ρ => .nx (wipeD ρ l)
  | .frz _ _, ρ => .nx ρ
  | .asg t e, ρ => (evE Φ e ρ).go fun d => (bindT t d ρ).noX.go fun ρ1 => .nx ρ1
  | .app i e, ρ => ((getS ρ i).bind asL).go fun x => (evE Φ e ρ).go fun v => (appD x v).go fun x1 => .nx (ρ.set i (some x1))
  | .ife c a b, ρ => ((evE Φ c ρ).bind tst).go fun x => if x then evS a ρ else evS b ρ
  | .for_ t it b, ρ => (evI Φ it ρ).go fun ds => forF (bindT t) (evS b) ds ρ
  | .ret e, ρ => (evE Φ e ρ).go fun d => .ret d
  | .retN, _ => .ret .none
  | .brk, ρ => .brk ρ
  | .cnt, ρ => .cnt ρ
  | .pas, ρ => .nx ρ
  | .nev, _ => .stuck
  | .rse x e, ρ => (evE Φ e ρ).go fun d => .exc x d
  | .try_ b hs, ρ => match evS b ρ with
    | .exc c i => hdl hs c i
    | r => r
  | .expr e, ρ => (evE Φ e ρ).go fun _ => .nx ρ
end
/-- a def -/
structure Fn where
  np : Nat
  ns : Nat
  rd : Nat
  body : S
def run (T : List Fn) : Nat → Nat → List D → R D
  | 0, _, _ => .stuck
  | n + 1, f, ds => match T[f]? with
    | some F => if ds.length = F.np then (match evS (run T n) F.body (ds.map some ++ List.replicate (F.ns - F.np) none) with
      | .ret d => .ok d
      | .nx _ => .ok .none
      | .exc c i => .exc c i
      | _ => .stuck) else .stuck
    | none => .stuck
def meet1 : OS → OS → OS
  | .own n, .own m => .own (min n m)
  | .bor b, .bor c => if b = c then .bor b else .dead
  | .own 0, .bor b => .bor b
  | .bor b, .own 0 => .bor b
  | _, _ => .dead
def meetS : SK → SK → SK
  | .e a, .e b => .e (meet1 a b)
  | .lent b o, .lent c p => if b = c ∧ o = p then .lent b o else .e .dead
  | _, _ => .e .dead
def wk1 : OS → OS → Bool
  | _, .dead => true
  | .own n, .own m => decide (m ≤ n)
  | .bor b, .bor c => decide (b = c)
  | .own 0, .bor _ => true
  | _, _ => false
def wkS : SK → SK → Bool
  | _, .e .dead => true
  | .e a, .e b => wk1 a b
  | .lent b o, .lent c p => decide (b = c) && decide (o = p)
  | _, _ => false
/-- the kind of a value of two ways -/
def meetK : OS → OS → Option OS
  | .own n, .own m => some (.own (min n m))
  | .bor b, .bor c => if b = c then some (.bor b) else none
  | .own _, .bor b => some (.bor b)
  | .bor b, .own _ => some (.bor b)
  | _, _ => none
def dep : OS → Nat
  | .own _ => 0
  | .bor b => b
  | .dead => 0
def live : Option OS → Bool
  | some (.own _) => true
  | some (.bor _) => true
  | _ => false
/-- read one level down at the most -/
def flat1 : Option OS → Bool
  | some (.own _) => true
  | some (.bor b) => decide (b ≤ 1)
  | _ => false
def isOwn : Option OS → Bool
  | some (.own _) => true
  | _ => false
def itemK : Option OS → Option OS
  | some (.own _) => some (.own 0)
  | some (.bor b) => if b ≤ 1 then some (.own 0) else some (.bor (b - 1))
  | _ => none
def slT : Tg → List Nat
  | .nm i => [i]
  | .nil => []
  | .cons t ts => slT t ++ slT ts
  | .tp ts => slT ts
def isTp : Tg → Bool
  | .tp _ => true
  | _ => false
def needT : C → Bool
  | .enm _ => true
  | _ => false
def unl (i : Nat) : SK → SK
  | .lent b o => if o = i then .e .dead else .lent b o
  | k => k
def unlO (i : Nat) (O : List SK) : List SK := O.map (unl i)
def kT : Tg → OS → List SK → List SK
  | .nm i, κ, O => (unlO i O).set i (.e κ)
  | .tp ts, _, O => kT ts (.own 0) O
  | .nil, _, O => O
  | .cons t ts, κ, O => kT ts κ (kT t κ O)
def wipeO (O : List SK) : List Nat → List SK
  | [] => O
  | v :: vs => (unlO v (wipeO O vs)).set v (.e .dead)
def biK : Bi → List (Option OS) → Option OS
  | _, ks => if ks.all live then some (.own 50) else none
section
variable (rds : Nat → Nat)
mutual
def kE : List SK → C → Option OS
  | O, .var i => match O[i]? with
    | some (.e (.own n)) => if n = 0 then some (.own 0) else some (.bor n)
    | some (.e (.bor b)) => some (.bor b)
    | some (.lent b _) => some (.bor b)
    | _ => none
  | _, .cI _ => some (.own 50)
  | _, .cB _ => some (.own 50)
  | _, .cS _ => some (.own 50)
  | _, .cN => some (.own 50)
  | _, .gI _ _ => some (.own 50)
  | _, .none_ => some (.own 50)
  | O, .bin _ a b => if flat1 (kE O a) && flat1 (kE O b) then some (.own 1) else none
  | O, .neg a => if live (kE O a) then some (.own 50) else none
  | O, .not a => if live (kE O a) then some (.own 50) else none
  | O, .and es => kM O es
  | O, .or es => kM O es
  | O, .cmp _ a b => if live (kE O a) && live (kE O b) then some (.own 50) else none
  | O, .chn _ _ a b c => if live (kE O a) && live (kE O b) && live (kE O c) then some (.own 50) else none
  | O, .tup es => match kDs O es with
    | some _ => some (.own 50)
    | none => none
  | O, .lst es => match kDs O es with
    | some r => some (.own (r + 1))
    | none => none
  | O, .ix a i => if live (kE O i) then itemK (kE O a) else none
  | O, .call f es => match kDs O es with
    | some _ => some (.own (rds f))
    | none => none
  | O, .callS f es => match kL O es with
    | some _ => some (.own 50)
    | none => none
  | O, .bi b es => match kL O es with
    | some ks => biK b ks
    | none => none
  | O, .isi _ a => if live (kE O a) then some (.own 50) else none
  | O, .mk _ a => if live (kE O a) then some (.own 0) else none
  | O, .isE _ _ a => if live (kE O a) then some (.own 50) else none
  | O, .att _ a => if live (kE O a) then some (.own 50) else none
  | O, .lc elt t it cond own => match kI O it with
    | some κ => if isOff cond || live (kE (kT t κ (wipeO O own)) cond) then (match kE (kT t κ (wipeO O own)) elt with
      | some (.own r) => some (.own (r + 1))
      | _ => none) else none
    | none => none
  | _, _ => none
/-- the least depth of a display's items -/
def kDs : List SK → C → Option Nat
  | _, .nil => some 50
  | O, .cons a as => match kE O a, kDs O as with
    | some (.own r), some m => some (min r m)
    | _, _ => none
  | _, _ => none
def kL : List SK → C → Option (List (Option OS))
  | _, .nil => some []
  | O, .cons a as => match kL O as with
    | some ks => if live (kE O a) then some (kE O a :: ks) else none
    | none => none
  | _, _ => none
/-- the kind of an and's value -/
def kM : List SK → C → Option OS
  | O, .cons a as => if isNil as then kE O a else (match kE O a, kM O as with
    | some x, some y => meetK x y
    | _, _ => none)
  | _, _ => none
def frK : List SK → C → Bool
  | O, .itv a => isOwn (kE O a)
  | _, .rng1 _ => true
  | O, .enm a => isOwn (kE O a)
  | _, _ => false
def kI : List SK → C → Option OS
  | O, .itv a => itemK (kE O a)
  | O, .rng1 a => if live (kE O a) then some (.own 0) else none
  | O, .enm a => if flat1 (kE O a) then some (.own 0) else none
  | _, _ => none
end
/-- does the walked thing stand still whatever is changed? -/
def frI (O : List SK) : C → Bool
  | .itv a => isOwn (kE rds O a)
  | .rng1 a => true
  | .enm a => isOwn (kE rds O a)
  | _ => false
end
end DL
set_option Elab.async false
set_option linter.all false
set_option maxRecDepth 100000
set_option maxHeartbeats 1000000
namespace DL
open PySem PySem.Spec PyProof.Rows L2
def Slot (K : PySem.W.Frag) (B H : Hp) (o : SK) (r : Option D) (s : Option V) (f : Fp) : Prop := match r with
  | none => f = []
  | some d => match o with
    | .e (.own n) => ∃ v, s = some v ∧ Rp K B n v d f
    | .e (.bor b) => f = [] ∧ ∃ v, s = some v ∧ Bp K B H b v d
    | .e .dead => f = []
    | .lent _ _ => f = []
inductive Slots (K : PySem.W.Frag) (B H : Hp) : List SK → En → L2.St → List Fp → Prop
  | nil : Slots K B H [] [] [] []
  | cons {o r s f O ρ σ fs} : Slot K B H o r s f → Slots K B H O ρ σ fs → Slots K B H (o :: O) (r :: ρ) (s :: σ) (f :: fs)
/-- what is frozen, and these cells -/
def hOf (B : Hp) (f : Fp) : Hp := fun a => match f.lookup a with
  | some u => some u
  | none => B a
/-- what is lent stands in the lender's cells -/
def Lents (K : PySem.W.Frag) (B : Hp) (O : List SK) (ρ : En) (σ : L2.St) (fs : List Fp) : Prop := ∀ (i b o : Nat), O[i]? = some (.lent b o) → ∀ d : D, ρ[i]? = some (some d) → ∃ v f, σ[i]? = some (some v) ∧ fs[o]? = some f ∧ Bp K B (hOf B f) b v d
structure Sta (K : PySem.W.Frag) (B : Hp) (O : List SK) (ρ : En) (σ : L2.St) (fs : List Fp) (F : Fp) (H : Hp) : Prop where
  ov : Ov B (fs.flatten ++ F) H
  sl : Slots K B H O ρ σ fs
  ln : Lents K B O ρ σ fs
/-- a value of a kind -/
def Rs (K : PySem.W.Frag) (B H : Hp) (κ : OS) (v : V) (d : D) (f : Fp) : Prop := match κ with
  | .own r => Rp K B r v d f
  | .bor b => f = [] ∧ Bp K B H b v d
  | .dead => False
section
variable {K : PySem.W.Frag} {B B' H H' : Hp} {O : List SK} {ρ : En} {σ : L2.St} {fs : List Fp} {F : Fp}
theorem Slot.mono (e : Le B B') (eH : Le H H') {o : SK} {r : Option D} {s : Option V} {f : Fp} (h : Slot K B H o r s f) : Slot K B' H' o r s f := by
  cases r with
  | none => exact h
  | some d =>
    cases o with
    | e κ =>
      cases κ with
      | own n => obtain ⟨v, h1, h2⟩ := h; exact ⟨v, h1, h2.le e⟩
      | bor b => obtain ⟨h0, v, h1, h2⟩ := h; exact ⟨h0, v, h1, h2.le e eH⟩
      | dead => exact h
    | lent b p => exact h
theorem Slots.mono (e : Le B B') (eH : Le H H') (h : Slots K B H O ρ σ fs) : Slots K B' H' O ρ σ fs := by
  induction h with
  | nil => exact .nil
  | cons r _ ih => exact .cons (r.mono e eH) ih
theorem Slots.len (h : Slots K B H O ρ σ fs) : ρ.length = O.length ∧ σ.length = O.length ∧ fs.length = O.length := by
  induction h with
  | nil => exact ⟨rfl, rfl, rfl⟩
  | cons _ _ ih => obtain ⟨a, b, c⟩ := ih; exact ⟨congrArg (· + 1) a, congrArg (· + 1) b, congrArg (· + 1) c⟩
/-- one slot, and what is put in its place -/
theorem Slots.at (h : Slots K B H O ρ σ fs) : ∀ {i : Nat}, i < O.length → ∃ o r s f, O[i]? = some o ∧ ρ[i]? = some r ∧ σ[i]? = some s ∧ fs[i]? = some f ∧ Slot K B H o r s f ∧
    ∀ B' H', Le B B' → Le H H' → ∀ o' r' s' f', Slot K B' H' o' r' s' f' → Slots K B' H' (O.set i o') (ρ.set i r') (σ.set i s') (fs.set i f') := by
  induction h with
  | nil => intro i hi; exact absurd hi (Nat.not_lt_zero _)
  | @cons o r s f O ρ σ fs h t ih =>
    intro i hi
    cases i with
    | zero => exact ⟨o, r, s, f, rfl, rfl, rfl, rfl, h, fun B' H' l lH o' r' s' f' q => .cons q (t.mono l lH)⟩
    | succ i =>
      obtain ⟨o1, r1, s1, g, h1, h2, h3, h4, h5, h6⟩ := ih (i := i) (Nat.lt_of_succ_lt_succ hi)
      exact ⟨o1, r1, s1, g, by simpa using h1, by simpa using h2, by simpa using h3, by simpa using h4, h5, fun B' H' l lH o' r' s' f' q => .cons (h.mono l lH) (h6 B' H' l lH o' r' s' f' q)⟩
theorem flat_at : ∀ {fs : List Fp} {i : Nat} {f : Fp}, fs[i]? = some f → ∃ f1, fs.flatten.Perm (f ++ f1) ∧ ∀ f', (fs.set i f').flatten.Perm (f' ++ f1)
  | [], _, _, h => by simp at h
  | g :: fs, 0, f, h => by
    simp at h; subst h
    exact ⟨fs.flatten, List.Perm.refl _, fun f' => List.Perm.refl _⟩
  | g :: fs, i + 1, f, h => by
    obtain ⟨f1, h1, h2⟩ := flat_at (fs := fs) (i := i) (f := f) (by simpa using h)
    have sw : ∀ (x y : Fp), y.Perm (x ++ f1) → (g ++ y).Perm (x ++ (g ++ f1)) := fun x y p => by
      refine (List.Perm.append_left g p).trans ?_
      rw [← List.append_assoc, ← List.append_assoc]
      exact List.Perm.append_right _ List.perm_append_comm
    exact ⟨g ++ f1, sw f _ h1, fun f' => sw f' _ (h2 f')⟩
theorem Slots.get {i : Nat} {o : SK} {d : D} (h : Slots K B H O ρ σ fs) (ho : O[i]? = some o) (hr : ρ[i]? = some (some d)) : ∃ s f f1, σ[i]? = some s ∧ Slot K B H o (some d) s f ∧ fs.flatten.Perm (f ++ f1) ∧
    fs[i]? = some f ∧ (∀ f', (fs.set i f').flatten.Perm (f' ++ f1)) ∧
    ∀ B' H', Le B B' → Le H H' → ∀ o' r' s' f', Slot K B' H' o' r' s' f' → Slots K B' H' (O.set i o') (ρ.set i r') (σ.set i s') (fs.set i f') := by
  have hi : i < O.length := by
    rcases Nat.lt_or_ge i O.length with q | q
    · exact q
    · rw [List.getElem?_eq_none q] at ho; cases ho
  obtain ⟨o1, r1, s1, f, h1, h2, h3, h4, h5, h6⟩ := h.at hi
  rw [ho] at h1; cases h1
  rw [hr] at h2; cases h2
  obtain ⟨f1, k1, k2⟩ := flat_at h4
  exact ⟨s1, f, f1, h3, h5, k1, h4, k2, h6⟩
theorem Ov.leH {c f : Fp} (e : Le B B') (h : Ov B c H) (h' : Ov B' (f ++ c) H') : Le H H' := fun a o q => by
  by_cases m : ∃ u, (a, u) ∈ c
  · obtain ⟨u, m⟩ := m
    rw [(h.own a u m).1] at q; cases q
    exact (h'.own a o (List.mem_append_right _ m)).1
  · rw [h.frz a fun u z => m ⟨u, z⟩] at q
    exact h'.le a o (e a o q)
theorem hOf_mono {f : Fp} (e : Le B B') : Le (hOf B f) (hOf B' f) := fun a u h => by
  unfold hOf at h ⊢
  cases q : f.lookup a with
  | some w => rw [q] at h; exact h
  | none => rw [q] at h; exact e a u h
theorem lookup_in {a : Addr} {u : HO} {l : Fp} (h : l.lookup a = some u) : (a, u) ∈ l := by
  induction l with
  | nil => cases h
  | cons p l ih =>
    rw [List.lookup_cons] at h
    cases e : a == p.1 with
    | true =>
      rw [e] at h
      have e1 : a = p.1 := by simpa using e
      have e2 : p.2 = u := by simpa using h
      rw [e1, ← e2]; exact List.mem_cons_self
    | false =>
      rw [e] at h
      exact List.mem_cons_of_mem _ (ih h)
theorem lookup_out {a : Addr} {l : Fp} (h : l.lookup a = none) (u : HO) : (a, u) ∉ l := by
  induction l with
  | nil => exact fun m => nomatch m
  | cons p l ih =>
    rw [List.lookup_cons] at h
    intro m
    cases e : a == p.1 with
    | true => rw [e] at h; cases h
    | false =>
      rw [e] at h
      rcases List.mem_cons.mp m with z | z
      · subst z; simp at e
      · exact ih h z
theorem hOf_le {f c : Fp} (h : Ov B c H) (s : ∀ p ∈ f, p ∈ c) : Le (hOf B f) H := fun a u q => by
  unfold hOf at q
  cases e : f.lookup a with
  | some w => rw [e] at q; cases q; exact (h.own a u (s _ (lookup_in e))).1
  | none => rw [e] at q; exact h.le a u q
/-- cells are given up: what was there is there -/
theorem hOf_less {f f' c c' : Fp} (e : Le B B') (h : Ov B (f ++ c) H) (h' : Ov B' (f' ++ c') H) (s : ∀ p ∈ c', p ∈ c ∨ p ∈ f') : Le (hOf B f) (hOf B' f') := fun a u q => by
  have hH : H a = some u := hOf_le h (fun p m => List.mem_append_left _ m) a u q
  unfold hOf at q ⊢
  cases q' : f'.lookup a with
  | some w =>
    have := (h'.own a w (List.mem_append_left _ (lookup_in q'))).1
    rw [hH] at this; exact this.symm
  | none =>
    show B' a = some u
    cases qf : f.lookup a with
    | none => rw [qf] at q; exact e a u q
    | some w =>
      rw [qf] at q; cases q
      have m := lookup_in qf
      have nd := h.nd
      rw [List.map_append, List.nodup_append] at nd
      rw [← h'.frz a fun w hw => ?_]
      · exact hH
      · rcases List.mem_append.mp hw with hw | hw
        · exact lookup_out q' w hw
        · rcases s _ hw with z | z
          · exact nd.2.2 a (List.mem_map.mpr ⟨_, m, rfl⟩) a (List.mem_map.mpr ⟨_, z, rfl⟩) rfl
          · exact lookup_out q' w z
theorem Lents.mono (e : Le B B') (h : Lents K B O ρ σ fs) : Lents K B' O ρ σ fs := fun i b o ho d hd => by
  obtain ⟨v, f, h1, h2, h3⟩ := h i b o ho d hd
  exact ⟨v, f, h1, h2, h3.le e (hOf_mono e)⟩
theorem Sta.mono {f : Fp} (S : Sta K B O ρ σ fs F H) (e : Le B B') (h' : Ov B' (f ++ (fs.flatten ++ F)) H') : Sta K B' O ρ σ fs (f ++ F) H' := by
  refine ⟨h'.perm ?_, S.sl.mono e (Ov.leH e S.ov h'), S.ln.mono e⟩
  rw [← List.append_assoc, ← List.append_assoc]
  exact List.Perm.append_right _ List.perm_append_comm
theorem Sta.mono0 (S : Sta K B O ρ σ fs F H) (e : Le B B') (h' : Ov B' (fs.flatten ++ F) H') : Sta K B' O ρ σ fs F H' := S.mono (f := []) e h'
end
/-- what is wanted of an error -/
def Exc (K : PySem.W.Frag) (cl : Str → Option Addr) (W : WX) (σ : L2.St) (B : Hp) (c : Str) (i : D) : Prop :=
  ∀ (C dd : Addr) (v : V) (B' : Hp), Le B B' → cl c = some C → B' dd = some (.xd [(("at" : Str), v)]) → Dq K B' v i → W (.ref C) (some dd) σ B'
/-- what is wanted of a value -/
def Out (K : PySem.W.Frag) (cl : Str → Option Addr) (W : WX) (σ : L2.St) (B : Hp) (cs : Fp) (κ : OS) (r : R D) (Q : VK) : Prop := match r with
  | .ok d => ∀ v B' f H', Le B B' → Ov B' (f ++ cs) H' → Rs K B' H' κ v d f → Q v H'
  | .exc c i => Exc K cl W σ B c i
  | .stuck => False
/-- the world of a def -/
structure Wd where
  Φ : Nat → List D → R D
  cl : Str → Option Addr
  W : WX
def tD (K : PySem.W.Frag) (Y : Wd) (O : List SK) (c : C) (κ : OS) : TE := fun σ H Q => ∃ B ρ fs F, Sta K B O ρ σ fs F H ∧ Out K Y.cl Y.W σ B (fs.flatten ++ F) κ (evE Y.Φ c ρ) Q
theorem PE.imp {X : Cx} {e : Expr} {t t' : TE} (h : PE X e t) (f : ∀ σ H Q, t' σ H Q → t σ H Q) : PE X e t' := ⟨fun pins s σ H Q I q => h.run pins s σ H Q I (f σ H Q q)⟩
theorem PT.imp {X : Cx} {e : Expr} {t t' : TT} (h : PT X e t) (f : ∀ σ H Q, t' σ H Q → t σ H Q) : PT X e t' := ⟨fun pins s σ H Q I q => h.run pins s σ H Q I (f σ H Q q)⟩
theorem PA.imp {X : Cx} {e : List Expr} {t t' : TA} (h : PA X e t) (f : ∀ σ H Q, t' σ H Q → t σ H Q) : PA X e t' := ⟨fun pos pins s σ H Q I q => h.run pos pins s σ H Q I (f σ H Q q)⟩
section
variable {K : PySem.W.Frag} {cl : Str → Option Addr} {W : WX} {σ : L2.St} {B B' H H' : Hp} {cs : Fp} {κ : OS} {Q : VK}
theorem Exc.mono {c : Str} {i : D} (e : Le B B') (h : Exc K cl W σ B c i) : Exc K cl W σ B' c i := fun C dd v B2 l h1 h2 h3 => h C dd v B2 (e.trans l) h1 h2 h3
theorem Out.mono {r : R D} (e : Le B B') (h : Out K cl W σ B cs κ r Q) : Out K cl W σ B' cs κ r Q := by
  cases r with
  | ok d => exact fun v B2 f H2 l o q => h v B2 f H2 (e.trans l) o q
  | exc c i => exact Exc.mono e h
  | stuck => exact h
/-- a value as an operand -/
theorem Rs.opnd {v : V} {d : D} {f : Fp} (o : Ov B (f ++ cs) H) (h : Rs K B H κ v d f) : ∃ B1, Le B B1 ∧ Ov B1 cs H ∧ Bp K B1 H (dep κ) v d := by
  cases κ with
  | own r =>
    obtain ⟨B1, l, m, o1⟩ := o.absorb
    exact ⟨B1, l, o1, (h : Rp K B r v d f).dq l m⟩
  | bor b =>
    obtain ⟨rfl, h⟩ := h
    exact ⟨B, Le.refl _, o, h⟩
  | dead => exact h.elim
theorem Out.opnd {r : R D} (hs : r ≠ .stuck) (hx : ∀ c i, r = .exc c i → Exc K cl W σ B c i) (h : ∀ d, r = .ok d → ∀ v B1 H1, Le B B1 → Ov B1 cs H1 → Bp K B1 H1 (dep κ) v d → Q v H1) : Out K cl W σ B cs κ r Q := by
  cases r with
  | ok d =>
    intro v B' f H' l o q
    obtain ⟨B1, l1, o1, q1⟩ := q.opnd o
    exact h d rfl v B1 H' (l.trans l1) o1 q1
  | exc c i => exact hx c i rfl
  | stuck => exact absurd rfl hs
theorem Out.bind {α : Type} {r : R α} {f : α → R D} (h : Out K cl W σ B cs κ (r.bind f) Q) : r ≠ .stuck ∧ (∀ c i, r = .exc c i → Exc K cl W σ B c i) ∧ ∀ d, r = .ok d → Out K cl W σ B cs κ (f d) Q := by
  cases r with
  | ok d => exact ⟨(fun q => nomatch q), (fun _ _ q => nomatch q), fun d' q => by cases q; exact h⟩
  | exc c i => exact ⟨(fun q => nomatch q), (fun c' i' q => by cases q; exact h), (fun _ q => nomatch q)⟩
  | stuck => exact h.elim
theorem Out.guard {b : Bool} {r : R D} (h : Out K cl W σ B cs κ (guard b r) Q) : b = true ∧ Out K cl W σ B cs κ r Q := by
  cases b with
  | true => exact ⟨rfl, h⟩
  | false => exact h.elim
/-- nothing new: a frozen value that is no list -/
theorem Out.leaf {d : D} {v : V} {n : Nat} (h : Out K cl W σ B cs (.own n) (.ok d) Q) (o : Ov B cs H) (q : Dq K B v d) (l : leaf d = true) : Q v H :=
  h v B [] H (Le.refl _) o (Rp.frz q (.inr l))
theorem Out.frz {d : D} {v : V} (h : Out K cl W σ B cs (.own 0) (.ok d) Q) (o : Ov B cs H) (q : Dq K B v d) : Q v H :=
  h v B [] H (Le.refl _) o ⟨rfl, q⟩
theorem Out.bor {d : D} {v : V} {b : Nat} (h : Out K cl W σ B cs (.bor b) (.ok d) Q) (o : Ov B cs H) (q : Bp K B H b v d) : Q v H :=
  h v B [] H (Le.refl _) o ⟨rfl, q⟩
theorem all3_of {xs : List V} {ds : List D} (h : DqL K B xs ds) : All3 (Rp K B 0) xs ds [] := by
  induction xs generalizing ds with
  | nil => cases h; exact .nil
  | cons x xs ih =>
    cases h with
    | cons r t => exact .cons (F := []) ⟨rfl, r⟩ (ih t)
/-- a new list -/
theorem Out.newL {ds : List D} {xs : List V} (h : Out K cl W σ B cs (.own 1) (.ok (.list ds)) Q) (o : Ov B cs H) {p : Addr} (n : H p = none) (z : xs.length ≤ sizeLine) (q : DqL K B xs ds) : Q (.ref p) (upd H p (.lst xs)) :=
  h (.ref p) B [(p, .lst xs)] _ (Le.refl _) (o.newOwn n _) (.inr (.inl ⟨p, xs, ds, [], rfl, rfl, rfl, z, all3_of q⟩))
/-- a new tuple -/
theorem Out.newT {ds : List D} {xs : List V} {n : Nat} (h : Out K cl W σ B cs (.own n) (.ok (.tuple ds)) Q) (o : Ov B cs H) {p : Addr} (np : H p = none) (z : xs.length ≤ sizeLine) (q : DqL K B xs ds) : Q (.ref p) (upd H p (.tup xs)) :=
  h (.ref p) (upd B p (.tup xs)) [] _ (le_new (o.free np).1 _) (o.new np _) (Rp.frz (.tup (.of upd_same) z (q.le (le_new (o.free np).1 _))) (.inr rfl))
end
end DL
set_option Elab.async false
set_option linter.all false
set_option maxRecDepth 100000
set_option maxHeartbeats 1000000
namespace DL
open PySem PySem.Spec PyProof.Rows L2
def lk (sc : Scope) (x : Str) : Option NameKind := sc.names.lookup x
def isLC : Option NameKind → Bool
  | some .local => true
  | some .cell => true
  | _ => false
def isVis : Option NameKind → Bool
  | some .local => true
  | some .cell => true
  | some .free => true
  | _ => false
def isLoc : Option NameKind → Bool
  | some .local => true
  | _ => false
def isGlb : Option NameKind → Bool
  | some .globalImplicit => true
  | _ => false
def okName (x : Str) : Bool := !(x == ("__debug__" : Str)) && !(x == ("__classdict__" : Str)) && decide (x ≠ "__name__")
def biName : Bi → Str
  | .len => "len" | .abs => "abs" | .int => "int" | .min2 => "min" | .all => "all" | .gcd => "gcd"
def opOf : B2 → Operator
  | .add => .Add | .sub => .Sub | .mul => .Mult | .fdiv => .FloorDiv | .mod => .Mod | .pow => .Pow | .shl => .LShift | .shr => .RShift | .band => .BitAnd | .bor => .BitOr
def cpOf : Cp → CmpOp
  | .eq => .Eq | .ne => .NotEq | .lt => .Lt | .le => .LtE | .gt => .Gt | .ge => .GtE | .inn => .In | .nin => .NotIn | .isn => .Is | .isnn => .IsNot | .isb => .Is | .isnb => .IsNot
def notSet : Expr → Bool
  | .Set .. => false
  | _ => true
def notSlice : Expr → Bool
  | .Slice .. => false
  | _ => true
def notStar : Expr → Bool
  | .Starred .. => false
  | _ => true
def attOk : Expr → Bool
  | .Name .. => true
  | .Subscript .. => true
  | _ => false
def isNon : Expr → Bool
  | .Constant .none _ _ => true
  | _ => false
/-- a word on the program: its defs by their numbers, the built-in names that are not rebound -/
structure Tx where
  fn : List Str
  bl : List Str
  gcd : Bool := false
  gi : List (Str × Int) := []
  cls : List Str := []
  eo : Bool := false
section
variable (T : Tx) (N : List Str)
mutual
def mT (sc : Scope) : Tg → Expr → Bool
  | .nm i, e => match e with
    | .Name x _ => decide (N[i]? = some x) && isLC (lk sc x)
    | _ => false
  | .tp ts, e => match e with
    | .Tuple es _ _ => mTs sc ts es
    | _ => false
  | .nil, _ => false
  | .cons _ _, _ => false
def mTs (sc : Scope) : Tg → List Expr → Bool
  | .nil, es => match es with
    | [] => true
    | _ => false
  | .cons t ts, es => match es with
    | e :: es => mT sc t e && mTs sc ts es
    | [] => false
  | .nm _, _ => false
  | .tp _, _ => false
end
def isiT (t : Str) : Bool := decide (t = ("list" : Str)) || decide (t = ("tuple" : Str)) || decide (t = ("bool" : Str)) || decide (t = ("int" : Str))
/-- the conditions of a clause: none, or one -/
def cdOk (off : Bool) (r : Expr → Bool) : List Expr → Bool
  | [] => off
  | [y] => !off && r y
  | _ => false
def bltOk (sc : Scope) (x : Str) : Bool := isGlb (lk sc x) && okName x && T.bl.contains x
mutual
def mE (sc : Scope) : C → Expr → Bool
  | .var i, e => match e with
    | .Name x _ => decide (N[i]? = some x) && isVis (lk sc x) && okName x
    | _ => false
  | .cI i, e => match e with
    | .Constant (.int j) _ _ => decide (i = j)
    | _ => false
  | .cB b, e => match e with
    | .Constant (.bool c) _ _ => decide (b = c)
    | _ => false
  | .cS s, e => match e with
    | .Constant (.str z) _ _ => decide (s = z)
    | _ => false
  | .gI y i, e => match e with
    | .Name x _ => decide (x = y) && isGlb (lk sc x) && okName x && T.gi.contains (y, i)
    | _ => false
  | .cN, e => match e with
    | .Constant .none _ _ => true
    | _ => false
  | .bin o a b, e => match e with
    | .BinOp x p y _ => decide (p = opOf o) && mE sc a x && mE sc b y
    | _ => false
  | .neg a, e => match e with
    | .UnaryOp .USub x _ => mE sc a x
    | _ => false
  | .not a, e => match e with
    | .UnaryOp .Not x _ => mE sc a x
    | _ => false
  | .and es, e => match e with
    | .BoolOp .And (x :: xs) _ => mL sc es (x :: xs)
    | _ => false
  | .or es, e => match e with
    | .BoolOp .Or (x :: xs) _ => mL sc es (x :: xs)
    | _ => false
  | .cmp o a b, e => match e with
    | .Compare x [p] [y] _ => decide (p = cpOf o) && mE sc a x && mE sc b y && notSet y && (!(o == .isn || o == .isnn) || isNon y)
    | _ => false
  | .chn o p a b c, e => match e with
    | .Compare x [q, r] [y, z] _ => decide (q = cpOf o) && decide (r = cpOf p) && mE sc a x && mE sc b y && mE sc c z && notSet y && notSet z && !(o == .isn || o == .isnn || p == .isn || p == .isnn || o == .isb || o == .isnb || p == .isb || p == .isnb)
    | _ => false
  | .tup es, e => match e with
    | .Tuple xs _ _ => mL sc es xs
    | _ => false
  | .lst es, e => match e with
    | .List xs _ => mL sc es xs
    | _ => false
  | .ix a i, e => match e with
    | .Subscript x y _ => mE sc a x && mE sc i y && notSlice y
    | _ => false
  | .call f es, e => match e with
    | .Call (.Name x _) (y :: ys) [] _ => decide (T.fn[f]? = some x) && isGlb (lk sc x) && okName x && mL sc es (y :: ys)
    | _ => false
  | .callS f es, e => match e with
    | .Call (.Name x _) (y :: ys) [] _ => decide (T.fn[f]? = some x) && isGlb (lk sc x) && okName x && mL sc es (y :: ys)
    | _ => false
  | .bi b es, e => match e with
    | .Call (.Name x _) (y :: ys) [] _ => decide (x = biName b) && (if b == .gcd then T.gcd && isGlb (lk sc x) && okName x else bltOk T sc x) && mL sc es (y :: ys)
    | _ => false
  | .lc elt t it cond own, e => match e with
    | .ListComp x [⟨tg, iter, ifs, 0⟩] sc2 _ => blkC N sc sc2 (own.map fun i => (N.getD i "", i)) && mT N sc2 t tg && (slT t).all own.contains && (!needT it || isTp t) && mI sc it iter && mE sc2 elt x && cdOk (isOff cond) (fun y => mE sc2 cond y) ifs
    | _ => false
  | .mk z a, e => match e with
    | .Call (.Name x _) [y] [] _ => decide (x = z) && T.eo && isGlb (lk sc x) && okName x && T.cls.contains x && mE sc a y && notStar y
    | _ => false
  | .isE z cs a, e => match e with
    | .Call (.Name x _) [y, .Name u _] [] _ => decide (x = "isinstance") && T.eo && bltOk T sc x && decide (u = z) && (if decide (z = ("ValueError" : Str)) then bltOk T sc u else isGlb (lk sc u) && okName u && T.cls.contains u) && decide (cs = T.cls) && mE sc a y && notStar y
    | _ => false
  | .att cs a, e => match e with
    | .Attribute y f _ => decide (f = "at") && T.eo && attOk y && decide (cs = T.cls) && mE sc a y
    | _ => false
  | .isi t a, e => match e with
    | .Call (.Name x _) [y, .Name z _] [] _ => decide (x = "isinstance") && bltOk T sc x && decide (z = t) && bltOk T sc z && isiT t && mE sc a y && notStar y
    | _ => false
  | .nil, _ => false
  | .cons _ _, _ => false
  | .none_, _ => false
  | .itv _, _ => false
  | .rng1 _, _ => false
  | .enm _, _ => false
def mL (sc : Scope) : C → List Expr → Bool
  | .nil, es => match es with
    | [] => true
    | _ => false
  | .cons a as, es => match es with
    | e :: es => mE sc a e && notStar e && mL sc as es
    | [] => false
  | _, _ => false
def mI (sc : Scope) : C → Expr → Bool
  | .itv a, e => mE sc a e && notSet e
  | .rng1 a, e => match e with
    | .Call (.Name x _) [y] [] _ => decide (x = "range") && bltOk T sc x && mE sc a y && notStar y
    | _ => false
  | .enm a, e => match e with
    | .Call (.Name x _) [y] [] _ => decide (x = "enumerate") && bltOk T sc x && mE sc a y && notStar y
    | _ => false
  | _, _ => false
end
end
end DL
set_option Elab.async false
set_option linter.all false
set_option maxRecDepth 100000
set_option maxHeartbeats 4000000
namespace DL
open PySem PySem.Spec PyProof.Rows L2
open PySem.W (Frag findIn typeIn keepIn subIn hasDictIn nsIn clsIn mroIn codeIn ksFn ksEnv ks_superIn excRec excTup InitBack)
open PySem.HandSPX (refsVE excO)
def hA (p1 p2 : Pos) : Arguments := { posonlyargs := [], args := [{ arg := "self", annotation := none, pos := p1 }, { arg := "at", annotation := none, pos := p2 }], vararg := none, kwonlyargs := [], kw_defaults := [], kwarg := none, defaults := [] }
def hB (a b c d e f g h i j : Pos) : List Stmt := [.Expr (.Call (.Attribute (.Call (.Name "super" a) [] [] b) "__init__" c) [.Name "at" d] [] e) f, .Assign [.Attribute (.Name "self" g) "at" h] (.Name "at" i) j]
def hS : Scope := { kind := .function, names := [(PySem.Str.ofString "self", .local), (PySem.Str.ofString "at", .local), (PySem.Str.ofString "__class__", .free), (PySem.Str.ofString "super", .globalImplicit)], isGenerator := false, isCoroutine := false, more := [] }
/-- what stands of the base class D's __init__, at fI -/
structure HFn (P : Program) (K : Frag) (D fI : Addr) : Prop where
  ex : ∃ (oc : Value) (od : Option Addr) (kV doc pm : Value) (an : Option Addr) (cda : Addr) (ct : Value) (osl : Array (Option Value)) (cc : Addr) (p1 p2 a b c d e f g h i j : Pos),
    K.lookup fI = some ⟨oc, od, .func (ksFn "__init__" "HallError.__init__" (hA p1 p2) (hB a b c d e f g h i j) hS .none kV doc pm an (.ref cda) ct cc), osl⟩ ∧ codeIn K (.ref cda) "HallError.__init__" = true ∧ (c.endLine == e.line) = true ∧
    (∃ (x : Value) (y : Option Addr) (vs : Array Value) (z : Array (Option Value)) (file : Str) (tf : Tok), K.lookup cda = some ⟨x, y, .fields vs, z⟩ ∧ vs[2]? = some (.str file tf) ∧ ((P.main.file : Str) == file) = true) ∧
    (∃ (x : Value) (y : Option Addr) (z : Array (Option Value)), K.lookup cc = some ⟨x, y, .cell (some (.ref D)), z⟩)
  cls : ∃ cdD, clsIn K D = some cdD
  top : (P.main.scope.names.lookup ("super" : Str)).isSome = false
  tC : typeIn K (.ref fI) = some (.type "function")
  third : nsIn K PySem.cStatics "thirdparty.any" = some none
/-- what stands of a class at C -/
structure HCls (K : Frag) (D fI C : Addr) : Prop where
  cls : ∃ nm q N bs bm sn sub ab col dd k0 k1 k2 k3 k5, K.lookup C = some (excClassObj nm q C N bs bm true sn sub ab col dd k0 k1 k2 k3 k5 "ValueError.__new__") ∧ refsVE bm = true
  sa : findIn K (.ref C) "__setattr__" = some (some (.builtin "object.__setattr__"))
  noN : findIn K (.ref C) "at" = some none
  iC : findIn K (.ref C) "__init__" = some (some (.ref fI))
  kC : keepIn K (.ref C) = true
  exC : subIn K (.ref C) (.type "BaseException") = some true
  veC : subIn K (.ref C) (.type "ValueError") = some true
  tyC : typeIn K (.ref C) = some (.type "type")
  up : mroIn K C (.ref D) = some true
  sup : ks_superIn K C D "__init__" = some (some (.builtin "ValueError.__init__"))
theorem meth_eq {o : Expr} {name : Str} {apos pos : Pos} {e : Expr} {env : Env} (hline : (apos.endLine == pos.line) = true) (hs : starEach [e] env = [(false, eval e env)] := by rfl) : eval (.Call (.Attribute o name apos) [e] [] pos) env = (do
      let ov ← attributeBase o name env (eval o env)
      standAt apos.atName
      let (f, first) ← holding [ov] (calleeOf true o env ov name)
      callWith pos f first (backTo pos (starEach [e] env)) []) := by
  have hpos : methodCallPos true o env apos pos = pure pos := by unfold methodCallPos; simp [hline]
  have hform : methodCallForm ([e].length + ([] : List Keyword).length) (backTo pos (starEach [e] env)) (backToKw pos (keywordEach [] env)) = true := by
    rw [hs]; rfl
  rw [arm_eval_Call]
  unfold methodCall
  rw [hform, hpos]
  simp only [pure_bind]
  rfl
theorem HCls.sup_l {K : Frag} {D fI C : Addr} (T : HCls K D fI C) : ∃ cd, clsIn K C = some cd ∧ PySem.W.alongIn K "__init__" ((cd.mro.dropWhile (· != .ref D)).drop 1) = some (some (.builtin "ValueError.__init__")) := by
  have h := T.sup
  unfold PySem.W.ks_superIn at h
  cases e : clsIn K C with
  | none => rw [e] at h; cases h
  | some cd => rw [e] at h; exact ⟨cd, rfl, h⟩
section
variable {P : Program} {w : World} {A : Around} {E : Value → Shared → Prop} {R : Result → Shared → Prop} {s : Shared} {K : Frag} {mg : Str → Option Value} {D fI C : Addr}
/-- the wrapped ValueError.__init__, bound to x, called with v -/
theorem bound_init {h : Heap} {g : Array GenState} {d : Drawn} {t : Nat} {os : OsState} (T : HCls K D fI C) (X : K.In h) {u x t0 : Addr} {v : Value} {Q : Value → Shared → Prop} (hu : h.get? u = some (PySem.W.kxs_mw "ValueError.__init__" x)) (hx : h.get? x = some (excO C t0))
    (q : ∀ h' t1, (∀ b o, b ≠ x → h.get? b = some o → h'.get? b = some o) → h'.get? x = some (excO C t1) → Q .none ⟨h', g, d, t, os⟩) : wpAny (model P w) A (call (.ref u) [v]) Q E ⟨h, g, d, t, os⟩ := by
  obtain ⟨nm, qn, N, bs, bm, sn, sub, ab, col, dd, k0, k1, k2, k3, k5, hC, _⟩ := T.cls
  have FB := PySem.F.excBase_ValueError
  refine wpAny_call (codeAny_of_tree ?_)
  show wpAny _ A.in1 (callAny (.ref u) ⟨[v], []⟩) _ _ _
  unfold callAny
  refine wpAny_bind (wpAny_load hu ?_)
  rw [show (PySem.W.kxs_mw "ValueError.__init__" x) = (⟨.type "method-wrapper", none, .fields #[.builtin "ValueError.__init__", .ref x], #[]⟩ : Obj) from rfl]
  dsimp only
  refine PySem.W.KFB.if_so (by decide) ?_
  refine wpAny_bind (PySem.W.check_bound_init FB.toExcCallFacts (X _ _ hC) hx rfl ?_)
  refine wpAny_bind (wpAny_pure (wpAny_pure ?_))
  refine ⟨plainId_quiet FB.init.plain _, codeAny_builtin FB.initEntry ?_⟩
  exact PySem.W.exc_init_tree (cls := .ref C) (t0 := t0) (dv := none) (c2 := .none) hx (by rw [sizeLine_eq]; show 1 ≤ _; decide) fun h' k e _ => q h' _ k e
theorem hall_init (F : HFn P K D fI) (T : HCls K D fI C) {x t0 : Addr} {v : Value} (X : K.In s.heap) (hlim : s.heap.NoLimit) (G : s.heap.Ns mainGlobals mg) (Gm : mg "super" = none) (Bn : ∃ mb, s.heap.Ns builtinsNs mb ∧ mb "super" = some (.type "super"))
    (hx : s.heap.get? x = some (excO C t0)) (hnx : K.lookup x = none) (hroom : A.depth < recursionLimit)
    (hq : ∀ h' tk dx t1, (∀ b o, b ≠ x → s.heap.get? b = some o → h'.get? b = some o) → h'.get? x = some { cls := .ref C, dict := some dx, data := .fields #[.ref t1, .none, .none, .none, .bool false, .none] } → s.heap.objs.size ≤ dx → dx ≠ x →
      h'.Ns1 dx (fun y => if y = "at" then some v else none) → R (.ok (.ret .none)) { s with heap := h', toks := tk }) :
    codeAny (model P w) A (.call (.ref fI) ⟨[.ref x, v], []⟩) R s := by
  obtain ⟨oc, od, kV, doc, pm, an, cda, ct, osl, cc, p1, p2, a, b, c, d, e, f, g, h, i, j, ho, hcd, hline, ⟨z1, z2, vs, z3, file, tf, hcode, hvs, hfile⟩, ⟨y1, y2, y3, hcell⟩⟩ := F.ex
  obtain ⟨cdD, hD⟩ := F.cls
  obtain ⟨nm, qn, N, bs, bm, sn, sub, ab, col, dd, k0, k1, k2, k3, k5, hC, hbm⟩ := T.cls
  have hcl : clsIn K C = some { name := nm, bases := bs, mro := .ref C :: bm, ns := N, qualname := qn, hasDict := true, slotNames := sn, subclasses := sub, abstract := ab, collection := col, hasDel := false } := by unfold PySem.W.clsIn; rw [hC] <;> rfl
  obtain ⟨mb, hb1, hb2⟩ := Bn
  refine PySem.ks_codeAny_call_defAt (fd := ksFn "__init__" "HallError.__init__" (hA p1 p2) (hB a b c d e f g h i j) hS .none kV doc pm an (.ref cda) ct cc) (body := hB a b c d e f g h i j) (binds := [("self", .ref x), ("at", v)])
    hroom (X _ _ ho) rfl hlim (PySem.W.codeRec_of X hcd) rfl (BindsTo.of_eq (by first | rfl | with_unfolding_all rfl)) (show ∀ y ∈ hS.names, y.2 ≠ .cell by decide) (fun y hy => ?_) (fun h1 hns hk => ?_) rfl rfl rfl
  · simp only [List.mem_cons, List.not_mem_nil, or_false] at hy
    rcases hy with rfl | rfl <;> rfl
  have X1 : K.In h1 := X.keeps hk
  have hx1 := hk _ _ hx
  obtain ⟨oD, hD1, hD2⟩ : ∃ oD, h1.get? D = some oD ∧ oD.data = .cls cdD := by
    unfold PySem.W.clsIn at hD
    split at hD
    · rename_i q1 q2 q3 q4 q5
      cases hD
      exact ⟨_, X1 _ _ q5, rfl⟩
    · cases hD
  refine PySem.ks_wpAt_execs_cons (PySem.ks_wpAt_Expr_any (PySem.ks_wpAt_MethodCall ?_ (meth_eq hline)))
  refine PySem.ks_wpAt_super_base rfl rfl rfl rfl (X1 _ _ ho) rfl rfl rfl (X1 _ _ hcode) rfl hvs hfile F.top ?_
  refine PySem.W.ks_loadName_global rfl rfl (Calls.loadGlobal_builtin (G.keeps hk) Gm (hb1.keeps hk) hb2 ⟨rfl, ?_⟩)
  refine wpAny_loadName_free rfl rfl rfl ⟨_, X1 _ _ hcell, rfl⟩ ?_
  refine wpAny_loadName_local rfl rfl hns rfl ?_
  refine PySem.ks_wpAny_isType_cls hD1 hD2 ⟨rfl, ?_⟩
  refine PySem.ks_wpAny_call_super hD1 hD2 hx1 rfl (fun cd q => by cases q) (PySem.W.looks_mroIn X1 T.up) (fun h2 hso hk2 => ?_)
  obtain ⟨cdC, hcC, hal⟩ := T.sup_l
  have X2 : K.In h2 := X1.keeps hk2
  have hx2 := hk2 _ _ hx1
  have I2 : PySem.W.InstAt h2 x (excO C t0) C none := ⟨hx2, rfl, rfl, trivial⟩
  refine PySem.W.kxs_getMethod PySem.W.kxs_ValueError hso (PySem.W.looks_opaque X2 F.third) (l₀ := cdC.mro) (fun A Q E s k q => wpAny_bind ((PySem.W.looks_clsIn X2 hcC) A _ E s k (wpAny_pure q))) rfl X2 hal (I2.type.andThen (PySem.W.looks_subIn X2 T.veC)) (PySem.W.ks_ne X2 I2 hcC) (by decide) ?_
  have hk3 : ∀ b o, h2.get? b = some o → (h2.push (PySem.W.kxs_mw "ValueError.__init__" x)).get? b = some o := fun b o q => Heap.get?_push_of_some _ q
  have hu : (h2.push (PySem.W.kxs_mw "ValueError.__init__" x)).get? h2.objs.size = some (PySem.W.kxs_mw "ValueError.__init__" x) := Heap.get?_push_at rfl rfl
  refine PySem.W.kxs_callWith (i := "ValueError.__init__") (x := x) rfl (Calls.evalArgs_plain (Calls.spliced_cons ?_))
  have hnsL : ∀ {h : Heap}, (∀ b o, h1.get? b = some o → h.get? b = some o) → h.Ns s.heap.objs.size (fun y => List.lookup y [(("at" : Str), v), (("self" : Str), .ref x)]) := fun k => hns.keeps k
  refine wpAny_Name (wpAny_loadName_local rfl rfl (hnsL fun b o q => hk3 b o (hk2 b o q)) rfl ?_) (by decide)
  refine Calls.spliced_nil ⟨hu, ?_⟩
  refine bound_init T (X2.keeps hk3) hu (hk3 _ _ hx2) (fun h4 t1 k4 hx4 => ?_)
  have hxL : s.heap.objs.size ≠ x := Nat.ne_of_gt (Heap.lt_size hx)
  have old : ∀ b o, b ≠ x → h1.get? b = some o → h4.get? b = some o := fun b o ne q => k4 b o ne (hk3 b o (hk2 b o q))
  have X4 : K.In h4 := fun b o q => old b o (fun z => by rw [z, hnx] at q; cases q) (X1 b o q)
  have n4 : h4.Ns s.heap.objs.size (fun y => List.lookup y [(("at" : Str), v), (("self" : Str), .ref x)]) := by
    obtain ⟨oL, es, ep, e1, e2⟩ := hns
    exact ⟨oL, es, ep, old _ _ hxL e1, e2⟩
  refine wpAt_of_wpAny (wpAny_execs_cons (plainObj_wpAny_Assign_Attribute ?_))
  refine wpAny_Name (wpAny_loadName_local rfl rfl n4 rfl ?_) (by decide)
  refine wpAny_Name (wpAny_loadName_local rfl rfl n4 rfl ?_) (by decide)
  refine PySem.W.set_plain X4 (ox := excO C t1) (od := none) ⟨hx4, rfl, rfl, trivial⟩ T.sa ?_
  refine HandSPX.exc_osa X4 hx4 hcl (show refsVE (.ref C :: bm) = true from hbm) rfl T.noN (fun h5 tk5 dx k5 dn dne hx5 hn5 => ?_)
  have sz : s.heap.objs.size ≤ h4.objs.size := by
    obtain ⟨oL, es, ep, e1, e2⟩ := n4
    exact Nat.le_of_lt (Heap.lt_size e1)
  show wpAny _ _ (execs _ _) _ _ _
  exact wpAny_execs_nil (hq h5 tk5 dx t1 (fun b o ne q => k5 b o ne (old b o ne (hk b o q))) hx5 (Nat.le_trans sz dn) dne hn5)
/-- a made error: at e, its dict at d -/
structure HMade (h h' : Heap) (e C d : Addr) (v : Value) : Prop where
  keep : ∀ b o, h.get? b = some o → h'.get? b = some o
  new : h.objs.size ≤ e
  obj : ∃ oe vs, h'.get? e = some oe ∧ oe.cls = .ref C ∧ oe.dict = some d ∧ oe.data = .fields vs ∧ vs[1]? = some .none
  dbig : h.objs.size ≤ d
  dne : d ≠ e
  ns : h'.Ns1 d (fun y => if y = "at" then some v else none)
theorem hall_made (F : HFn P K D fI) (T : HCls K D fI C) {v : Value} (X : K.In s.heap) (hlim : s.heap.NoLimit) (G : s.heap.Ns mainGlobals mg) (Gm : mg "super" = none) (Bn : ∃ mb, s.heap.Ns builtinsNs mb ∧ mb "super" = some (.type "super"))
    (hroom : A.depth + 1 < recursionLimit) (hq : ∀ h' tk e d, HMade s.heap h' e C d v → R (.ok (.ret (.ref e))) { s with heap := h', toks := tk }) : codeAny (model P w) A (.call (.ref C) ⟨[v], []⟩) R s := by
  obtain ⟨nm, q, N, bs, bm, sn, sub, ab, col, dd, k0, k1, k2, k3, k5, hC, hbm⟩ := T.cls
  obtain ⟨hp, g, dr, tk, os⟩ := s
  have up : ∀ b o, hp.get? b = some o → ((hp.push (PySem.W.kdv_tup [v])).push (excO C hp.objs.size)).get? b = some o := fun b o e => Heap.get?_push_of_some _ (Heap.get?_push_of_some _ e)
  have at_ : ((hp.push (PySem.W.kdv_tup [v])).push (excO C hp.objs.size)).get? (hp.objs.size + 1) = some (excO C hp.objs.size) := by heap_get
  have out : K.lookup (hp.objs.size + 1) = none := by
    cases e : K.lookup (hp.objs.size + 1) with
    | none => rfl
    | some o => exact absurd (Nat.lt_of_succ_lt (Heap.lt_size (show hp.get? _ = some o from X _ _ e))) (Nat.lt_irrefl _)
  have one : [v].length ≤ sizeLine := by rw [sizeLine_eq]; show 1 ≤ _; decide
  obtain ⟨mb, b1, b2⟩ := Bn
  refine HandSPX.call_own PySem.F.excBase_ValueError (fun X => HandSPX.refsVE_contains X bm hbm) (X _ _ hC) (PySem.W.looks_findIn X T.iC) (fun self => PySem.W.bind_fn X self F.tC) one ?_
  refine hall_init (s := ⟨(hp.push (PySem.W.kdv_tup [v])).push (excO C hp.objs.size), g, dr, tk, os⟩) F T (X.keeps up) (hlim.keeps up) (G.keeps up) Gm ⟨mb, b1.keeps up, b2⟩ at_ out hroom fun h' tk' dx t1 k' hx dn dne hns => ?_
  have z : hp.objs.size + 1 + 1 ≤ dx := by
    first
      | (simpa only [Heap.size_push] using dn)
      | exact dn
      | (have q := dn; rw [Heap.size_push, Heap.size_push] at q; exact q)
  exact ⟨rfl, hq h' tk' (hp.objs.size + 1) dx ⟨fun b o e => k' b o (Nat.ne_of_lt (Nat.lt_succ_of_lt (Heap.lt_size e))) (up b o e), Nat.le_succ _, ⟨_, _, hx, rfl, rfl, rfl, rfl⟩, Nat.le_trans (Nat.le_trans (Nat.le_succ _) (Nat.le_succ _)) z, dne, hns⟩⟩
end
theorem relO_at {v : V} {v' : Value} (r : RelV v v') (f : Str) : RelO (List.lookup f [(("at" : Str), v)]) (if f = "at" then some v' else none) := by
  by_cases hw : f = "at"
  · subst hw
    rw [if_pos rfl, show List.lookup ("at" : Str) [(("at" : Str), v)] = some v by simp [List.lookup]]
    exact r
  · rw [if_neg hw, show List.lookup f [(("at" : Str), v)] = none by simp [List.lookup, show (f == ("at" : Str)) = false by simpa using hw]]
    trivial
section
variable {X : Cx} {C D fI : Addr} {x : Str}
/-- X(e) -/
def tHall (C : Addr) (ta : TA) : L2.St → Hp → XK → Prop := fun σ H Q => ta σ H fun vs H1 => ∃ v, vs = [v] ∧ ∀ d, H1 d = none → Q (.ref C) (some d) (upd H1 d (.xd [(("at" : Str), v)]))
theorem pmk_hall {a : Expr} {ta : TA} {p pos : Pos} (F : HFn X.prog X.K D fI) (T : HCls X.K D fI C) (hd : X.A.depth + 1 < recursionLimit) (ha : PA X [a] ta) (hg : Gl X x) (hm : X.mg x = some (.ref C)) (hs : X.mg "super" = none)
    (hdb : (x == ("__debug__" : Str)) = false) (he : starEach [a] X.env = [(false, eval a X.env)]) : PMk X (.Call (.Name x p) [a] [] pos) (tHall C ta) := by
  intro pins s σ H Q I h
  refine wpAny_Call_Name_kw (ld_glob I hg hm ?_ hdb)
  refine PySem.W.callWith_K (h₀ := X.base) I.ok.mod.kin T.kC (thn (ha.run pos pins s σ H _ I h) fun us s1 hh => ?_) he rfl
  obtain ⟨vs, H1, I1, r1, v, ev, q1⟩ := hh
  subst ev
  refine ⟨I1.kIn, ?_⟩
  cases r1 with
  | cons rv rn =>
    rename_i v' us'
    cases rn
    show wpAny _ _ (call (.ref C) [v']) _ _ _
    have lim := I1.nolimit
    obtain ⟨mb, m1, m2⟩ := I1.mod.blt
    have gl := I1.mod.glob.keeps I1.bk
    have bl := m1.keeps I1.bk
    obtain ⟨hp, g, dr, tk, os⟩ := s1
    refine wpAny_call (hall_made F T I1.kIn lim gl hs ⟨mb, bl, (m2 _ (by decide)).trans (by first | rfl | kernel_rfl)⟩ hd fun h' tk' e d M => ?_)
    show MkP X pins σ Q (.ref e) ⟨h', g, dr, tk', os⟩
    obtain ⟨oe, fv, hoe, hc, hdd, hdat, h1⟩ := M.obj
    have hns := M.ns
    obtain ⟨G', g1, g2⟩ := restrict h' fun b => decide (b ≠ e)
    have gk : ∀ b, b ≠ e → G'.get? b = h'.get? b := fun b hb => g1 b (decide_eq_true hb)
    have ge : G'.get? e = none := g2 e (by simp)
    have old : ∀ b o, hp.get? b = some o → G'.get? b = some o := fun b o q => (gk b (Nat.ne_of_lt (Nat.lt_of_lt_of_le (Heap.lt_size q) M.new))).trans (M.keep b o q)
    have ob : ObjOk X.prog X.w (upd H1 d (.xd [(("at" : Str), v)])) G' d (.xd [(("at" : Str), v)]) := ⟨_, hns.at (fun o q => (gk d M.dne).trans q), fun f => relO_at rv f⟩
    have J : Inv X pins σ (upd H1 d (.xd [(("at" : Str), v)])) ⟨G', g, dr, tk', os⟩ := I1.laid (t' := tk') old M.dbig ob
    refine ⟨e, oe, fv, ⟨G', g, dr, tk', os⟩, _, .ref C, some d, rfl, J, fun b o q => ?_, ge, hoe, ⟨hc, hdd⟩, hdat, h1, ?_, rfl, I1.bare, raises_own T.exC T.tyC, q1 d (I1.hok.fresh M.dbig)⟩
    · by_cases hb : b = e
      · rw [hb] at q
        have q : G'.get? e = some o := q
        rw [ge] at q; cases q
      · exact (gk b hb).symm.trans q
    · rw [upd_ne (Ne.symm M.dne)]
      exact I1.hok.fresh M.new
/-- raise X(e) -/
theorem ps_hall {a : Expr} {ta : TA} {W : WX} {p pos pos2 : Pos} (hc : X.calm = true) (tk : Takes X W) (F : HFn X.prog X.K D fI) (T : HCls X.K D fI C) (hd : X.A.depth + 1 < recursionLimit) (ha : PA X [a] ta) (hg : Gl X x) (hm : X.mg x = some (.ref C)) (hs : X.mg "super" = none)
    (hdb : (x == ("__debug__" : Str)) = false) (he : starEach [a] X.env = [(false, eval a X.env)]) : PS X (.Raise (some (.Call (.Name x p) [a] [] pos)) none pos2) (fun _ σ H => tHall C ta σ H fun cls d H' => W cls d σ H') :=
  ps_raise hc tk (pmk_hall F T hd ha hg hm hs hdb he)
end
end DL
set_option Elab.async false
set_option linter.all false
set_option maxRecDepth 100000
set_option maxHeartbeats 2000000
namespace DL
open PySem PySem.Spec PyProof.Rows L2
abbrev Suite := Addr → Value → Option Addr → TS
/-- the ends of a clause: its name is unbound behind it; the error itself may be told -/
def clauseEnds (D : Ends) (i : Nat) (a : Addr) (cls : Value) (d : Option Addr) : Ends := { nx := fun τ G => D.nx (τ.set i none) G, rt := fun v G => D.rt v G ∨ ∃ C dd, cls = .ref C ∧ d = some dd ∧ D.rt v (upd G a (errO C dd a)), bk := fun τ G => D.bk (τ.set i none) G, ct := fun τ G => D.ct (τ.set i none) G }
/-- what the clauses wish of an error -/
def wClauses (K : PySem.W.Frag) (out : WX) (D : Ends) : List (Value × Nat × Suite) → WX
  | [] => out
  | (c, i, ts) :: r => fun cls d σ H => ∃ b, PySem.W.exmOne K cls c = some b ∧ (b = true → ∀ a, H a = none → ts a cls d (clauseEnds D i a cls d) (σ.set i (some (.ref a))) H) ∧ (b = false → wClauses K out D r cls d σ H)
inductive Clauses (X : Cx) : List ExceptHandler → List (Value × Nat × Suite) → Prop
  | nil : Clauses X [] []
  | cons {x n : Str} {c : Value} {i : Nat} {ts : Suite} {first : Stmt} {rest : List Stmt} {p q : Pos} {hs : List ExceptHandler} {l : List (Value × Nat × Suite)} (names : Names X x c) (at_ : X.N[i]? = some n) (loc : X.env.kindOf n = some .local)
      (suite : ∀ (a : Addr) (oe : Obj) (cls : Value) (d : Option Addr) (pn : List (Addr × Obj)), Zc cls d oe → (∃ vs, oe.data = .fields vs) → PSs (X.suite a ((a, oe) :: pn)) (first :: rest) (ts a cls d)) (r : Clauses X hs l) :
      Clauses X (.ExceptHandler (some (.Name x p)) (some n) (first :: rest) q :: hs) ((c, i, ts) :: l)
section
variable {X : Cx} {body : List Stmt} {one : ExceptHandler} {more : List ExceptHandler} {l : List (Value × Nat × Suite)} {pos : Pos} {tb : WX → TS} {out : WX}
theorem SP_ofTry {pins pn : List (Addr × Obj)} {xe : Value → Shared → Prop} {D : Ends} (ok : X.Ok) {f : Flow} {s : Shared} (h : SP (X.tr (X.pn ++ pins) xe) pn D f s) : SP X pins D f s := by
  cases f with
  | next => obtain ⟨τ, G, J, q⟩ := h; exact ⟨τ, G, J.ofTry ok, q⟩
  | brk => obtain ⟨τ, G, J, q⟩ := h; exact ⟨τ, G, J.ofTry ok, q⟩
  | cont => obtain ⟨τ, G, J, q⟩ := h; exact ⟨τ, G, J.ofTry ok, q⟩
  | ret u => obtain ⟨v, τ, G, J, r, q⟩ := h; exact ⟨v, τ, G, J.ofTry ok, r, q⟩
/-- the error that a suite held is an object of ours -/
theorem Inv.adopt {pins pn' : List (Addr × Obj)} {σ : L2.St} {H : Hp} {s : Shared} {a C dd : Addr} {oe : Obj} (I : Inv (X.suite a ((a, oe) :: (X.pn ++ pins))) pn' σ H s) (ok : X.Ok) (hz : Zc (.ref C) (some dd) oe) (hf : ∃ vs, oe.data = .fields vs)
    (hnew : ∀ ob, X.s_0.heap.get? a = some ob → a ∈ X.ex) (np : ∀ p ∈ X.pn ++ pins, p.1 ≠ a) : Inv X pins σ (upd H a (errO C dd a)) s := by
  obtain ⟨ge, na, nL, nF, nc⟩ := I.pin (a, oe) (List.mem_append_left _ List.mem_cons_self)
  obtain ⟨vs, hd⟩ := hf
  have na : H a = none := na
  have some_ne : ∀ {b : Addr} {u : HO}, H b = some u → b ≠ a := fun {b u} e z => by rw [z, na] at e; cases e
  have J := I.unsuite ok
  refine ⟨ok, J.os, J.bare, ⟨J.base.keep, J.base.slot, fun b ob e n hx => ?_, J.base.there, fun b xs e => ?_, fun b ob u e => ?_, fun b ps e => ?_⟩, J.loc, J.cell, ?_, fun x c e => ?_, fun p hp => ?_, fun b u e => ?_, J.len⟩
  · rw [upd_ne (fun z => by subst z; exact hx (hnew ob e))]
    exact J.base.free b ob e n hx
  · have q := J.base.tups b xs e
    rw [upd_ne (some_ne q)]; exact q
  · have q := J.base.frzs b ob u e
    rw [upd_ne (some_ne q)]; exact q
  · obtain ⟨m, q⟩ := J.base.tbls b ps e
    exact ⟨m, by rw [upd_ne (some_ne q)]; exact q⟩
  · rw [upd_ne (Ne.symm nL)]; exact J.free
  · rw [upd_ne (fun z => ?_)]
    · exact J.freeC x c e
    · subst z
      obtain ⟨v, hv⟩ := J.cell x c e
      obtain ⟨o, ho, hdat⟩ := hv
      rw [show s.heap.get? c = some oe from ge] at ho
      cases ho
      first
        | exact nc v hdat
        | exact nc v hdat.1
        | exact nc v hdat.2
  · obtain ⟨q1, q2, q3⟩ := J.pin p hp
    exact ⟨q1, by rw [upd_ne (np p hp)]; exact q2, q3⟩
  · by_cases hb : b = a
    · subst hb
      rw [upd_same] at e
      cases e
      exact ⟨⟨oe, vs, ge, hz.1, hz.2, hd⟩, ⟨_, ge⟩, fun h1 h2 z k => by
        obtain ⟨oe, vs, q, q1, q2, q3⟩ := z
        exact ⟨oe, vs, k _ q, q1, q2, q3⟩⟩
    · rw [upd_ne hb] at e
      exact (J.hok b u e).stay (fun c v _ q => q) (fun c q => by rw [upd_ne (some_ne q)]; exact q) fun c xs q => by rw [upd_ne (some_ne q)]; exact q
theorem ps_clauses (hN : X.N.Nodup) (hs : X.stack = X.env :: X.outer) (hf : X.env.frame = some X.env.locals) (tk : Takes X out)
    (hb : ∀ (W : WX) (pn : List (Addr × Obj)) (xe : Value → Shared → Prop), Takes (X.tr pn xe) W → PassesOwn (model X.prog X.w) X.A X.env xe → PSs (X.tr pn xe) body (tb W))
    (hh : Clauses X (one :: more) l) : PS X (.Try body (one :: more) [] [] pos) (fun D σ H => tb (wClauses X.K out D l) D σ H) := by
  refine ⟨fun pins s σ H D I h => wpAny_Try_except ?_⟩
  have ok := I.ok
  have frames : X.A.frames = some (X.env :: X.outer) := by rw [ok.frames, hs]
  let E : Value → Shared → Prop := fun e s1 => wpAny (model X.prog X.w) X.A (noteFrame e X.env) (fun _ s2 => wpAny (model X.prog X.w) X.A (setFlight e none)
    (fun _ s3 => wpAny (model X.prog X.w) X.A (handleBy e X.env (one :: more)) (SP X pins D) X.xe s3) X.xe s2) X.xe s1
  have takes : Takes (X.tr (X.pn ++ pins) E) (wClauses X.K out D l) := by
    rintro u s' ⟨a, B, sI, pins', τ, G, cls, d, rfl, Jt, nb, up, sky, na, os, ag, w⟩
    have J : Inv X pins τ G sI := Jt.ofTry ok
    rw [show (X.tr (X.pn ++ pins) E).stack = X.env :: X.outer from hs] at sky
    refine Sky.land Zc.steady frames hf sky fun h3 fl up3 => ?_
    have J3 : Inv X pins τ G { s' with heap := h3 } := J.landed nb fl.1 (up.trans up3) os ag
    obtain ⟨oe, vs, he, hz, hd⟩ := fl.there
    have nfr : a ∉ frs (X.env :: X.outer) := fun m => by
      obtain ⟨_, o, e1, e2⟩ := fl.2.2.1.mem m
      rw [he] at e1; cases e1
      exact e2 _ hd
    have nL : a ≠ X.env.locals := fun z => nfr (List.mem_filterMap.mpr ⟨X.env, List.mem_cons_self, by rw [hf, z]⟩)
    have nF : a ∉ X.fs := fun m => by
      obtain ⟨e, m1, m2⟩ := List.mem_filterMap.mp m
      exact nfr (List.mem_filterMap.mpr ⟨e, List.mem_cons_of_mem _ m1, m2⟩)
    have S3 := J3.suite he hd na nL nF
    have walk : ∀ {hds : List ExceptHandler} {k : List (Value × Nat × Suite)}, Clauses X hds k → wClauses X.K out D k cls d τ G →
        wpAny (model X.prog X.w) X.A (handleBy (.ref a) X.env hds) (SP X pins D) X.xe { s' with heap := h3 } := by
      intro hds k hk
      induction hk with
      | nil =>
        intro w
        refine wpAny_handleBy_nil ?_
        obtain ⟨_, _, _, o2, vs2, T, oT, ts2, g1, g2, g3, g4, _⟩ := id fl
        unfold PySem.passOn
        refine wpAny_bind (wpAny_field g1 g3 g4 ?_)
        rw [if_neg (show ¬ ((Value.ref T == Value.none) = true) by simp)]
        have last : wpAny (model X.prog X.w) X.A (setFlight (.ref a) X.env.frame) (fun _ s4 => wpAny (model X.prog X.w) X.A (throw (.ref a) : Sem Flow) (SP X pins D) X.xe s4) X.xe { s' with heap := h3 } := by
          rw [hf]
          refine HandSPX.setFlight_upZ fl fun h4 held up4 => wpAny_throw (tk _ _ ?_)
          refine ⟨a, B, sI, pins, τ, G, cls, d, rfl, J, nb, (up.trans up3).trans up4, .inr (.inr ?_), na, os, ag, w⟩
          rw [hs]; exact held
        first
          | exact wpAny_bind (wpAny_pure (wpAny_bind last))
          | exact wpAny_bind last
      | @cons x n c i ts first rest p q hs2 k2 names at_ loc suite r ih =>
        rintro ⟨b, eb, yes, no⟩
        refine wpAny_handleBy_cons (codeAny_handlers_test ?_) (by intro z; cases z)
        have looks : PySem.W.Looks (model X.prog X.w) h3 (typeOf (.ref a)) cls := fun A Q E s kk z => wpAny_typeOf_ref (kk _ _ he) (by rw [hz.1]; exact z)
        have match_ := PySem.W.exm_one (M := model X.prog X.w) J3.kIn looks eb
        have name_ : ∀ {Q E : Value → Shared → Prop}, Q c { s' with heap := h3 } → wpAny (model X.prog X.w) (X.A.mark (some (.ref a))) (eval (.Name x p) X.env) Q E { s' with heap := h3 } := fun {Q E} z => by
          obtain ⟨g1, g2, g3 | ⟨g3, g4, g5⟩⟩ := names
          · exact ld_glob (X := X.suite a ((a, oe) :: (X.pn ++ pins))) S3 g1 g3 z g2
          · exact ld_blt (X := X.suite a ((a, oe) :: (X.pn ++ pins))) S3 g1 g3 g4 z g5 g2
        refine name_ (match_.here ?_)
        cases b with
        | false => exact ih (no rfl)
        | true =>
          refine codeAny_handlers_suite_as (HandSPX.lands_againZ fl fun h4 fl4 up4 => ?_)
          have J4 : Inv X pins τ G { s' with heap := h4 } := J.landed nb fl4.1 ((up.trans up3).trans up4) os ag
          obtain ⟨oe4, vs4, he4, hz4, hd4⟩ := fl4.there
          refine store_ok (X := X.suite a ((a, oe4) :: (X.pn ++ pins))) (v := .ref a) (J4.suite he4 hd4 na nL nF) hN at_ (.inl loc) rfl (fun s5 S5 => ?_) (.inr loc)
          have close : ∀ {τ6 : L2.St} {G6 : Hp} {s6 : Shared} {Q : Shared → Prop}, Inv (X.suite a ((a, oe4) :: (X.pn ++ pins))) [] τ6 G6 s6 → (∀ s7, Inv X pins (τ6.set i none) G6 s7 → Q s7) →
              wpAny (model X.prog X.w) X.A (do bindName X.env n .none; unbindBehindTheSuite X.env n q) (fun _ s7 => Q s7) X.xe s6 := fun S6 z => gone_ok (S6.unsuite ok) hN at_ loc z
          refine wpAny_mono ((suite a oe4 cls d (X.pn ++ pins) hz4 ⟨_, hd4⟩).run [] s5 _ G _ S5 (yes rfl a na)) (fun f s6 z => ?_) (fun _ _ z => z.elim)
          cases f with
          | next => obtain ⟨τ6, G6, S6, q6⟩ := z; exact close S6 fun s7 J7 => ⟨_, _, J7, q6⟩
          | brk => obtain ⟨τ6, G6, S6, q6⟩ := z; exact close S6 fun s7 J7 => ⟨_, _, J7, q6⟩
          | cont => obtain ⟨τ6, G6, S6, q6⟩ := z; exact close S6 fun s7 J7 => ⟨_, _, J7, q6⟩
          | ret u =>
            obtain ⟨v6, τ6, G6, S6, r6, q6⟩ := z
            rcases q6 with q6 | ⟨C, dd, ec, ed, q6⟩
            · exact close S6 fun s7 J7 => ⟨_, _, _, J7, r6, q6⟩
            · subst ec ed
              have new : sI.heap.get? a = none := by
                cases e : sI.heap.get? a with
                | none => rfl
                | some o =>
                  have q := nb a o e (by rw [show (X.tr (X.pn ++ pins) E).stack = X.env :: X.outer from hs]; exact nfr)
                  rw [show B.get? a = none from fl.2.1] at q
                  cases q
              have J6 := Inv.adopt S6 ok hz4 ⟨_, hd4⟩ (fun ob e => Classical.byContradiction fun hx => by
                obtain ⟨o', q⟩ := J.base.there a ob e hx
                rw [new] at q; cases q) fun p hp z => by
                have q := (J.pin p hp).1
                rw [z, new] at q; cases q
              exact gone_ok J6 hN at_ loc fun s7 J7 => ⟨_, _, _, J7, r6, q6⟩
    exact walk hh w
  refine wpAny_mono ((hb (wClauses X.K out D l) (X.pn ++ pins) E takes PassesOwn.looking).run [] s σ H D (I.toTry _) h) (fun f s1 z => ?_) (fun _ _ z => z)
  have z := SP_ofTry ok z
  cases f with
  | next => exact wpAny_execs_nil z
  | brk => exact z
  | cont => exact z
  | ret u => exact z
end
end DL
set_option Elab.async false
set_option linter.all false
set_option maxRecDepth 100000
set_option maxHeartbeats 1000000
namespace DL
open PySem PySem.Spec PyProof.Rows L2
section
variable {X : Cx} {pins : List (Addr × Obj)} {σ : L2.St} {H B : Hp} {s : Shared} {cs : Fp}
theorem cell_obj {P : Program} {w : World} {H : Hp} {h : Heap} {a : Addr} {o : HO} (k : isCell o = true) (x : ObjOk P w H h a o) : ∃ ob, h.get? a = some ob ∧ ∀ v, ob.data ≠ .cell v := by
  cases o with
  | lst xs => obtain ⟨_, its, n, _, e⟩ := x; exact ⟨_, e, fun v z => nomatch z⟩
  | dK kvs => obtain ⟨_, _, _, _, o, es, ep, e, _, h2, _⟩ := x; exact ⟨o, e, fun v z => by rw [h2] at z; cases z⟩
  | dT kvs => obtain ⟨_, _, xs, _, o, es, ep, e, _, h2, _⟩ := x; exact ⟨o, e, fun v z => by rw [h2] at z; cases z⟩
  | _ => cases k
theorem cell_stay {P : Program} {w : World} {H H' : Hp} {h h' : Heap} {a : Addr} {o : HO} (k : isCell o = true) (x : ObjOk P w H h a o) (e : ∀ ob, h.get? a = some ob → h'.get? a = some ob)
    (t : ∀ b xs, H b = some (.tup xs) → H' b = some (.tup xs)) : ObjOk P w H' h' a o := by
  cases o with
  | lst xs => obtain ⟨z, its, n, r, q⟩ := x; exact ⟨z, its, n, r, e _ q⟩
  | dK kvs => obtain ⟨z, y, vs, r, ob, es, ep, q, c⟩ := x; exact ⟨z, y, vs, r, ob, es, ep, e _ q, c⟩
  | dT kvs =>
    obtain ⟨z, y, xs, r, ob, es, ep, q, c⟩ := x
    exact ⟨z, y, xs, L2.Paired.mapP r fun p q z => ⟨z.1, t _ _ z.2.1, z.2.2⟩, ob, es, ep, e _ q, c⟩
  | _ => cases k
theorem own_in (o : Ov B cs H) {b : Addr} {u : HO} (k : isCell u = false) (e : H b = some u) : B b = some u := by
  by_cases q : ∃ o', (b, o') ∈ cs
  · obtain ⟨o', q⟩ := q
    have h1 := (o.own b o' q).1
    rw [e] at h1; cases h1
    rw [o.ck b u q] at k; cases k
  · rw [← o.frz b fun o' m => q ⟨o', m⟩]; exact e
def cellPins (h : Heap) (cs : Fp) : List (Addr × Obj) := cs.filterMap fun p => (h.get? p.1).map fun o => (p.1, o)
theorem mem_cellPins {h : Heap} {a : Addr} {o : HO} {ob : Obj} (m : (a, o) ∈ cs) (e : h.get? a = some ob) : (a, ob) ∈ cellPins h cs :=
  List.mem_filterMap.mpr ⟨(a, o), m, by rw [e]; rfl⟩
theorem of_cellPins {h : Heap} {p : Addr × Obj} (m : p ∈ cellPins h cs) : ∃ o, (p.1, o) ∈ cs ∧ h.get? p.1 = some p.2 := by
  obtain ⟨⟨a, o⟩, mm, e⟩ := List.mem_filterMap.mp m
  cases q : h.get? a with
  | none => simp [q] at e
  | some ob =>
    simp [q] at e
    subst e
    exact ⟨o, mm, q⟩
/-- the cells are forgotten, but pinned -/
theorem Inv.hide (I : Inv X pins σ H s) (o : Ov B cs H) : Inv X (pins ++ cellPins s.heap cs) σ B s := by
  have bn : ∀ b, H b = none → B b = none := fun b e => (o.free e).1
  have own : ∀ {b u}, isCell u = false → H b = some u → B b = some u := fun k e => own_in o k e
  refine ⟨I.ok, I.os, I.bare, ⟨I.base.keep, I.base.slot, fun b ob e n hx => bn b (I.base.free b ob e n hx), I.base.there, fun b xs e => own rfl (I.base.tups b xs e), fun b ob u e => own rfl (I.base.frzs b ob u e), fun b ps e => ?_⟩,
    I.loc, I.cell, bn _ I.free, fun x c e => bn _ (I.freeC x c e), fun p hp => ?_, fun a u e => ?_, I.len⟩
  · obtain ⟨m, q⟩ := I.base.tbls b ps e
    exact ⟨m, own rfl q⟩
  · rw [← List.append_assoc] at hp
    rcases List.mem_append.mp hp with hp | hp
    · obtain ⟨h1, h2, h3⟩ := I.pin p hp
      exact ⟨h1, bn _ h2, h3⟩
    · obtain ⟨u, m, e⟩ := of_cellPins hp
      obtain ⟨hH, hB⟩ := o.own p.1 u m
      obtain ⟨ob, e2, nc⟩ := cell_obj (o.ck _ _ m) (I.hok p.1 u hH)
      rw [e] at e2; cases e2
      refine ⟨e, hB, fun z => ?_, fun z => ?_, nc⟩
      · rw [z, I.free] at hH; cases hH
      · obtain ⟨_, o', ho', _⟩ := I.ok.funs.mem z
        rw [I.base.free p.1 o' ho' (I.ok.frf p.1 z) fun q => I.ok.exfs p.1 q z] at hH
        cases hH
  · exact (I.hok a u (o.le a u e)).stay (fun _ _ _ q => q) (fun b q => own rfl q) fun b xs q => own rfl q
/-- .. and seen again -/
theorem Inv.show {B' H' : Hp} {s' : Shared} (I : Inv X pins σ H s) (o : Ov B cs H) (l : Le B B') (o' : Ov B' cs H') (J : Inv X (pins ++ cellPins s.heap cs) σ B' s') : Inv X pins σ H' s' := by
  have pinned : ∀ {a : Addr} {u : HO}, (a, u) ∈ cs → ∃ ob, s.heap.get? a = some ob ∧ s'.heap.get? a = some ob := fun {a u} m => by
    obtain ⟨ob, e, _⟩ := cell_obj (o.ck _ _ m) (I.hok a u (o.own a u m).1)
    exact ⟨ob, e, (J.pin (a, ob) (List.mem_append_right _ (List.mem_append_right _ (mem_cellPins m e)))).1⟩
  have inn : ∀ {b u}, B' b = some u → H' b = some u := fun e => o'.le _ _ e
  have nn : ∀ {b}, B' b = none → (∀ u, (b, u) ∉ cs) → H' b = none := fun e h => by rw [o'.frz _ h]; exact e
  refine ⟨J.ok, J.os, J.bare, ⟨J.base.keep, J.base.slot, fun b ob e n hx => ?_, J.base.there, fun b xs e => inn (J.base.tups b xs e), fun b ob u e => inn (J.base.frzs b ob u e), fun b ps e => ?_⟩,
    J.loc, J.cell, nn J.free fun u m => ?_, fun x c e => nn (J.freeC x c e) fun u m => ?_, fun p hp => ?_, fun a u e => ?_, J.len⟩
  · refine nn (J.base.free b ob e n hx) fun u m => ?_
    have := I.base.free b ob e n hx
    rw [(o.own b u m).1] at this; cases this
  · obtain ⟨m, q⟩ := J.base.tbls b ps e
    exact ⟨m, inn q⟩
  · have := I.free
    rw [(o.own _ u m).1] at this; cases this
  · have := I.freeC x c e
    rw [(o.own _ u m).1] at this; cases this
  · have hp' : p ∈ X.pn ++ (pins ++ cellPins s.heap cs) := by
      rw [← List.append_assoc]; exact List.mem_append_left _ hp
    obtain ⟨h1, h2, h3⟩ := J.pin p hp'
    refine ⟨h1, nn h2 fun u m => ?_, h3⟩
    have := (I.pin p hp).2.1
    rw [(o.own _ u m).1] at this; cases this
  · by_cases q : ∃ u', (a, u') ∈ cs
    · obtain ⟨u', m⟩ := q
      have e2 := (o'.own a u' m).1
      rw [e] at e2; cases e2
      obtain ⟨ob, e3, e4⟩ := pinned m
      exact cell_stay (o.ck _ _ m) (I.hok a u (o.own a u m).1) (fun ob z => by rw [e3] at z; cases z; exact e4) fun b xs z => inn (l _ _ (own_in o rfl z))
    · have e1 : B' a = some u := by rw [← o'.frz a fun u' m => q ⟨u', m⟩]; exact e
      exact (J.hok a u e1).stay (fun _ _ _ z => z) (fun b z => inn z) fun b xs z => inn z
theorem lookup_mem {a : Addr} {u : HO} {l : Fp} (h : l.lookup a = some u) : (a, u) ∈ l := by
  induction l with
  | nil => cases h
  | cons p l ih =>
    rw [List.lookup_cons] at h
    cases e : a == p.1 with
    | true =>
      rw [e] at h
      have e1 : a = p.1 := by simpa using e
      have e2 : p.2 = u := by simpa using h
      rw [e1, ← e2]; exact List.mem_cons_self
    | false =>
      rw [e] at h
      exact List.mem_cons_of_mem _ (ih h)
theorem mem_lookup' {l : Fp} (nd : (l.map (·.1)).Nodup) {a : Addr} {u : HO} (m : (a, u) ∈ l) : l.lookup a = some u := by
  induction l with
  | nil => cases m
  | cons p l ih =>
    rw [List.map_cons, List.nodup_cons] at nd
    rw [List.lookup_cons]
    rcases List.mem_cons.mp m with e | m
    · subst e; simp
    · have ne : (a == p.1) = false := by
        simp only [beq_eq_false_iff_ne, ne_eq]
        rintro rfl
        exact nd.1 (List.mem_map.mpr ⟨_, m, rfl⟩)
      rw [ne]
      exact ih nd.2 m
/-- behind what did not know the owned cells -/
theorem Inv.again {B' : Hp} {s' : Shared} (I : Inv X pins σ H s) (o : Ov B cs H) (l : Le B B') (J : Inv X (pins ++ cellPins s.heap cs) σ B' s') : ∃ H', Ov B' cs H' ∧ Inv X pins σ H' s' := by
  have nd : ∀ a u, (a, u) ∈ cs → B' a = none := fun a u m => by
    obtain ⟨ob, e, _⟩ := cell_obj (o.ck _ _ m) (I.hok a u (o.own a u m).1)
    exact (J.pin (a, ob) (List.mem_append_right _ (List.mem_append_right _ (mem_cellPins m e)))).2.1
  have o' : Ov B' cs (fun a => match cs.lookup a with | some u => some u | none => B' a) := by
    refine ⟨fun a u m => ⟨?_, nd a u m⟩, fun a hn => ?_, o.nd, o.ck⟩
    · show (match cs.lookup a with | some u => some u | none => B' a) = _
      rw [mem_lookup' o.nd m]
    · show (match cs.lookup a with | some u => some u | none => B' a) = _
      cases q : cs.lookup a with
      | none => rfl
      | some u => exact (hn u (lookup_mem q)).elim
  exact ⟨_, o', Inv.show I o l o' J⟩
end
end DL
set_option Elab.async false
set_option linter.all false
set_option maxRecDepth 100000
set_option maxHeartbeats 1000000
namespace DL
open PySem PySem.Spec PyProof.Rows L2
def rInT (K : PySem.W.Frag) (neg : Bool) : R2 := fun x y H Q => ∃ d ds, Dp K H x d ∧ Dp K H y (.tuple ds) ∧ SeqAt.shaped d = true ∧ SeqAt.shaped (.tuple ds) = true ∧ Q (.bl (if neg then !ds.any fun z => PyData.eqv z d else ds.any fun z => PyData.eqv z d)) H
theorem lay_tup {ds : List PyData} (h : SeqAt.shaped (.tuple ds) = true) : PyData.canLayAll0 ds = true := by
  have := SeqAt.canLay_of_shaped h
  simpa only [PyData.canLay0] using this
theorem op_inX {X : Cx} (hu : X.A.units + 65 < cLine) : OpR X (compareOp .In) (fun x y H Q => rInD X.K x y H Q ∨ rInT X.K false x y H Q) := by
  intro pins s σ H x y v u Q I rx ry h
  rcases h with h | ⟨d, ds, hd, he, sd, se, q⟩
  · exact op_inD hu pins s σ H x y v u Q I rx ry h
  · obtain ⟨as, r1⟩ := Dp.reads I d x v hd rx
    obtain ⟨bs, r2⟩ := Dp.reads I (.tuple ds) y u he ry
    exact SeqAt.in_tuple_reads r2 r1 (lay_tup se) (SeqAt.canLay_of_shaped sd) (room_in_shaped sd hu) ⟨.bl _, H, I, rfl, q⟩
theorem op_ninX {X : Cx} (hu : X.A.units + 65 < cLine) : OpR X (compareOp .NotIn) (fun x y H Q => rNotInD X.K x y H Q ∨ rInT X.K true x y H Q) := by
  intro pins s σ H x y v u Q I rx ry h
  rcases h with h | ⟨d, ds, hd, he, sd, se, q⟩
  · exact op_notInD hu pins s σ H x y v u Q I rx ry h
  · obtain ⟨as, r1⟩ := Dp.reads I d x v hd rx
    obtain ⟨bs, r2⟩ := Dp.reads I (.tuple ds) y u he ry
    exact SeqAt.notIn_tuple_reads r2 r1 (lay_tup se) (SeqAt.canLay_of_shaped sd) (room_in_shaped sd hu) ⟨.bl _, H, I, rfl, q⟩
section
variable {K : PySem.W.Frag} {B H : Hp}
theorem Dq.bl_inv {v : V} {i : Bool} (h : Dq K B v (.bool i)) : v = .bl i := by cases h; rfl
theorem Dq.int_inv {v : V} {i : Int} (h : Dq K B v (.int i)) : v = .int i := by cases h; rfl
theorem Dq.bool_inv {v : V} {i : Bool} (h : Dq K B v (.bool i)) : v = .bl i := by cases h; rfl
theorem Dq.none_inv {v : V} (h : Dq K B v .none) : v = .non := by cases h; rfl
theorem Dq.list_inv {v : V} {ds : List D} (h : Dq K B v (.list ds)) : ∃ a xs, v = .ref a ∧ B a = some (.lst xs) ∧ xs.length ≤ sizeLine ∧ DqL K B xs ds := by
  cases h with
  | lst s z r => exact ⟨_, _, rfl, s, z, r⟩
theorem Dq.tuple_inv {v : V} {ds : List D} (h : Dq K B v (.tuple ds)) : ∃ a xs, v = .ref a ∧ SqT K B a xs ∧ xs.length ≤ sizeLine ∧ DqL K B xs ds := by
  cases h with
  | tup s z r => exact ⟨_, _, rfl, s, z, r⟩
/-- a scalar is the same over any heap -/
theorem Dq.scal {B' : Hp} {v : V} {d : D} (h : Dq K B v d) (s : scalar d = true) : Dq K B' v d := by
  cases h with
  | non => exact .non
  | bl b => exact .bl b
  | int i => exact .int i
  | str x => exact .str x
  | lst => cases s
  | tup => cases s
  | dk => cases s
  | dt => cases s
  | rdl => cases s
  | er => cases s
theorem leaf_of_scalar {d : D} (s : scalar d = true) : leaf d = true := by cases d <;> first | rfl | cases s
/-- borrowed data of a leaf's kind is frozen -/
theorem Bp.leaf {b : Nat} {v : V} {d : D} (h : Bp K B H b v d) (l : leaf d = true) : Dq K B v d := by
  cases b with
  | zero => exact h
  | succ b =>
    rcases h with h | ⟨_, _, ds, _, e, _⟩ | ⟨_, _, ds, _, e, _⟩ | ⟨_, _, ds, _, e, _⟩
    · exact h
    · subst e; cases l
    · subst e; cases l
    · subst e; cases l
theorem Bp.bl_inv {b : Nat} {v : V} {i : Bool} (h : Bp K B H b v (.bool i)) : v = .bl i := (h.leaf rfl).bl_inv
theorem Bp.int_inv {b : Nat} {v : V} {i : Int} (h : Bp K B H b v (.int i)) : v = .int i := (h.leaf rfl).int_inv
/-- a list read -/
theorem Bp.list_inv (eH : Le B H) {b : Nat} {v : V} {ds : List D} (h : Bp K B H b v (.list ds)) : ∃ a xs, v = .ref a ∧ H a = some (.lst xs) ∧ xs.length ≤ sizeLine ∧ Paired (Bp K B H (b - 1)) xs ds := by
  cases b with
  | zero =>
    obtain ⟨a, xs, e, s, z, r⟩ := Dq.list_inv h
    exact ⟨a, xs, e, eH _ _ s, z, of_dqL r⟩
  | succ b =>
    rcases h with h | ⟨a, xs, ds, e0, e, s, z, r⟩ | ⟨_, _, ds, _, e, _⟩ | ⟨_, _, ds, _, e, _⟩
    · obtain ⟨a, xs, e, s, z, r⟩ := Dq.list_inv h
      exact ⟨a, xs, e, eH _ _ s, z, L2.Paired.mapP (of_dqL r) fun _ _ q => Bp.of q⟩
    · cases e; exact ⟨a, xs, e0, s, z, r⟩
    · cases e
    · cases e
theorem rdOf_some {kvs : List (D × D)} {xs : List D} (h : rdOf kvs = some xs) : kvs = [(.none, .list xs)] := by
  unfold rdOf at h
  split at h
  · cases h; rfl
  · cases h
/-- the script -/
theorem Bp.rd_inv {b : Nat} {v : V} {kvs : List (D × D)} {ds : List D} (h : Bp K B H b v (.dict kvs)) (e : rdOf kvs = some ds) : ∃ a xs, v = .ref a ∧ SqL K B a xs ∧ DqL K B xs ds := by
  have e' := rdOf_some e
  subst e'
  have nk : ∀ k : Key, kD k ≠ .none := fun k => by cases k <;> (intro z; cases z)
  have go : Dq K B v (.dict [(.none, .list ds)]) → ∃ a xs, v = .ref a ∧ SqL K B a xs ∧ DqL K B xs ds := fun h => by
    generalize hd : (PyData.dict [(PyData.none, PyData.list ds)]) = d at h
    cases h with
    | dk s r =>
      injection hd with hd
      generalize hl : [(PyData.none, PyData.list ds)] = l at hd
      subst hd
      cases r with
      | nil => cases hl
      | @cons k _ _ _ _ _ _ =>
        injection hl with h1 _
        injection h1 with h2 _
        exact absurd h2.symm (nk k)
    | dt s r =>
      injection hd with hd
      generalize hl : [(PyData.none, PyData.list ds)] = l at hd
      subst hd
      cases r with
      | nil => cases hl
      | @cons k _ _ _ _ _ _ =>
        injection hl with h1 _
        injection h1 with h2 _
        exact absurd h2.symm (by unfold ktD; intro z; cases z)
    | rdl s r => cases hd; exact ⟨_, _, rfl, s, r⟩
    | _ => cases hd
  cases b with
  | zero => exact go h
  | succ b =>
    rcases h with h | ⟨_, _, ds, _, e, _⟩ | ⟨_, _, ds, _, e, _, r⟩ | ⟨_, _, ds, _, e, _, r⟩
    · exact go h
    · cases e
    · cases e
      cases r with
      | cons q _ => exact absurd q.1.symm (nk _)
    · cases e
      cases r with
      | cons q _ => exact absurd q.1 (by unfold ktD; intro z; cases z)
/-- .. of one level -/
theorem Bp.flat_inv (eH : Le B H) {b : Nat} (hb : b ≤ 1) {v : V} {ds : List D} (h : Bp K B H b v (.list ds)) : ∃ a xs, v = .ref a ∧ H a = some (.lst xs) ∧ xs.length ≤ sizeLine ∧ DqL K B xs ds := by
  obtain ⟨a, xs, e, s, z, r⟩ := h.list_inv eH
  have e0 : b - 1 = 0 := by omega
  rw [e0] at r
  exact ⟨a, xs, e, s, z, dqL_of r⟩
theorem Paired.get' {α β : Type} {F : α → β → Prop} : ∀ {xs : List α} {ys : List β} {i : Nat} {y : β}, Paired F xs ys → ys[i]? = some y → ∃ x, xs[i]? = some x ∧ F x y
  | _, _, _, _, .nil, e => by simp at e
  | _, _, 0, _, .cons r _, e => by simp at e; subst e; exact ⟨_, rfl, r⟩
  | _, _, i + 1, y, .cons _ t, e => by
    obtain ⟨u, h1, h2⟩ := Paired.get' (i := i) (y := y) t (by simpa using e)
    exact ⟨u, by simpa using h1, h2⟩
theorem Paired.len {α β : Type} {F : α → β → Prop} : ∀ {xs : List α} {ys : List β}, Paired F xs ys → xs.length = ys.length
  | _, _, .nil => rfl
  | _, _, .cons _ t => congrArg (· + 1) (Paired.len t)
end
def spF (K : PySem.W.Frag) (cl : Str → Option Addr) (rd : Nat) (φ : List D → R D) : Sp := fun vs H Q E => ∃ ds, DqL K H vs ds ∧ match φ ds with
  | .ok d => ∀ v B' f H', Le H B' → Ov B' f H' → Rp K B' rd v d f → Q v H'
  | .exc c i => ∀ (C dd : Addr) (v : V) (B' : Hp), Le H B' → cl c = some C → B' dd = some (.xd [(("at" : Str), v)]) → Dq K B' v i → E (.ref C) (some dd) B'
  | .stuck => False
/-- a def that keeps a promise, called where no object is being shown -/
structure FnG (P : Program) (w : World) (K : PySem.W.Frag) (mg : Str → Option Value) (base : Heap) (n : Nat) (f : Addr) (fd : FuncData) (ps : List Str) (sp : Sp) : Prop where
  len : ∀ vs H Q E, sp vs H Q E → vs.length = ps.length
  go : ∀ (A : Around) (fr : List Env) (st : Shared) (H : Hp) (ar : Args) (us : List Value) (vs : List V) (Q : VK) (E : XK), Room n A → A.guards = some [] → Env0 P w K mg base A fr st H → BindsTo st fd ar (ps.zip us) → Vals vs us → sp vs H Q E →
    codeAny (model P w) A (.call (.ref f) ar) (CR (L2.CX P w) fr P w H st Q E) st
/-- the program's errors -/
structure HallW (T : Tx) (cl : Str → Option Addr) (P : Program) (K : PySem.W.Frag) (mg : Str → Option Value) : Prop where
  sup : T.cls ≠ [] → mg "super" = none
  fn : T.cls ≠ [] → ∃ D fI, HFn P K D fI ∧ ∀ x, T.cls.contains x = true → ∃ C, cl x = some C ∧ mg x = some (.ref C) ∧ HCls K D fI C ∧ XfC K C
  ex : ∀ c x, T.cls.contains c = true → T.cls.contains x = true → ∀ C Cx, cl c = some C → cl x = some Cx → PySem.W.exmOne K (.ref C) (.ref Cx) = some (exm x c)
  in_ : ∀ c C, cl c = some C → T.cls.contains c = true
  kx : T.eo = true → ∀ x C, T.cls.contains x = true → cl x = some C → clK K x = some C ∧ ExcC K C
/-- the place where a code is: the names, what they stand for -/
structure Good (T : Tx) (rds : Nat → Nat) (Y : Wd) (N : List Str) (n : Nat) (sc : Scope) (X : Cx) : Prop where
  hN : X.N = N
  nd : N.Nodup
  calm : X.calm = true
  kind : X.env.scope.kind = .function
  vis : ∀ x, isVis (lk sc x) = true → Vis X.env.scope x
  lc : ∀ x, isLC (lk sc x) = true → Loc X.env.scope x ∧ (X.fn x = true ∨ X.env.scope.names.lookup x = some .local)
  loc : ∀ x, isLoc (lk sc x) = true → X.env.scope.names.lookup x = some .local
  nloc : ∀ x, isLoc (lk sc x) = false → X.env.scope.names.lookup x ≠ some .local
  fre : ∀ x, (lk sc x = some .cell ∨ lk sc x = some .free) → (X.env.scope.names.lookup x = some .cell ∨ X.env.scope.names.lookup x = some .free)
  gl : ∀ x, isGlb (lk sc x) = true → Gl X x
  room : Room n X.A
  gd : X.A.guards = some []
  gcd : T.gcd = true → X.mg "gcd" = some (.builtin "math.gcd")
  tk : Takes X Y.W
  fns : ∀ f x, T.fn[f]? = some x → ∃ a fd ps, X.mg x = some (.ref a) ∧ PySem.W.keepIn X.K (.ref a) = true ∧ Binds X.K fd ps [] ∧ FnG X.prog X.w X.K X.mg X.base n a fd ps (spF X.K Y.cl (rds f) (Y.Φ f))
  bl : ∀ x, T.bl.contains x = true → X.mg x = none
  gi : ∀ x i, T.gi.contains (x, i) = true → ∃ u, X.mg x = some u ∧ RelV (.int i) u
  hl : HallW T Y.cl X.prog X.K X.mg
section
variable {X : Cx} {Y : Wd} {O : List SK} {e ea eb ec : Expr} {a b c : C} {κ κa κb κc : OS} {pos : Pos}
theorem se_int {i : Int} {j : Nat} {n : Nat} : PE X (.Constant (.int i) j pos) (tD X.K Y O (.cI i) (.own n)) :=
  PE.imp pe_int fun σ H Q ⟨B, ρ, fs, F, S, h⟩ => Out.leaf h S.ov (.int i) rfl
theorem se_bl {i : Bool} {j : Nat} {n : Nat} : PE X (.Constant (.bool i) j pos) (tD X.K Y O (.cB i) (.own n)) :=
  PE.imp pe_bl fun σ H Q ⟨B, ρ, fs, F, S, h⟩ => Out.leaf h S.ov (.bl i) rfl
theorem se_str {i : Str} {j : Nat} {n : Nat} : PE X (.Constant (.str i) j pos) (tD X.K Y O (.cS i) (.own n)) :=
  PE.imp pe_str fun σ H Q ⟨B, ρ, fs, F, S, h⟩ => Out.leaf h S.ov (.str i) rfl
theorem se_gI {x : Str} {i : Int} {u : Value} {n : Nat} (hg : Gl X x) (hm : X.mg x = some u) (r : RelV (.int i) u) (hd : (x == ("__debug__" : Str)) = false) : PE X (.Name x pos) (tD X.K Y O (.gI x i) (.own n)) :=
  PE.imp (pe_glob hg hm r hd) fun σ H Q ⟨B, ρ, fs, F, S, h⟩ => Out.leaf h S.ov (.int i) rfl
theorem se_non {j : Nat} {n : Nat} : PE X (.Constant .none j pos) (tD X.K Y O .cN (.own n)) :=
  PE.imp pe_non fun σ H Q ⟨B, ρ, fs, F, S, h⟩ => Out.leaf h S.ov .non rfl
theorem se_var {i : Nat} {x : Str} {rds : Nat → Nat} (hN : X.N[i]? = some x) (hv : Vis X.env.scope x) (h1 : (x == ("__debug__" : Str)) = false) (h2 : (x == ("__classdict__" : Str)) = false) (hk : kE rds O (.var i) = some κ) : PE X (.Name x pos) (tD X.K Y O (.var i) κ) := by
  refine PE.imp (pe_var hN hv h1 h2) fun σ H Q ⟨B, ρ, fs, F, S, h⟩ => ?_
  simp only [evE] at h
  simp only [kE] at hk
  cases e : ρ[i]? with
  | none => simp only [e] at h; exact h.elim
  | some r =>
    cases r with
    | none => simp only [e] at h; exact h.elim
    | some d =>
      simp only [e] at h
      cases eo : O[i]? with
      | none => simp only [eo] at hk; cases hk
      | some o =>
        obtain ⟨s, f, f1, hs, hS, hp, _⟩ := S.sl.get eo e
        cases o with
        | lent b p =>
          obtain ⟨v, g, h1, h2, h3⟩ := S.ln i b p eo d e
          refine ⟨v, h1, ?_⟩
          simp only [eo] at hk
          cases hk
          refine Out.bor h S.ov (h3.le (Le.refl _) (hOf_le S.ov fun q m => List.mem_append_left _ (List.mem_flatten.mpr ⟨g, List.mem_of_getElem? h2, m⟩)))
        | e κ =>
        cases κ with
        | own n =>
          obtain ⟨v, rfl, hR⟩ := hS
          refine ⟨v, hs, ?_⟩
          simp only [eo] at hk
          by_cases hn : n = 0
          · subst hn
            simp at hk; subst hk
            obtain ⟨rfl, q⟩ := hR
            exact Out.frz h S.ov q
          · rw [if_neg hn] at hk
            cases hk
            refine Out.bor h S.ov (hR.bp S.ov.le fun a o m => (S.ov.own a o ?_).1)
            exact List.mem_append_left _ (hp.mem_iff.mpr (List.mem_append_left _ m))
        | bor b =>
          obtain ⟨rfl, v, rfl, hR⟩ := hS
          refine ⟨v, hs, ?_⟩
          simp only [eo] at hk
          cases hk
          exact Out.bor h S.ov hR
        | dead => simp only [eo] at hk; cases hk
/-- an operation on values: what it owes -/
def Op2 (X : Cx) (Y : Wd) (r : R2) (da db : Nat) (f : D → D → R D) (κ : OS) : Prop :=
  ∀ (σ : L2.St) (B H : Hp) (cs : Fp) (Q : VK) (x y : V) (dx dy : D), Ov B cs H → Bp X.K B H da x dx → Bp X.K B H db y dy → Out X.K Y.cl Y.W σ B cs κ (f dx dy) Q → r x y H Q
theorem two {r : R2} {f : D → D → R D} (hf : Op2 X Y r (dep κa) (dep κb) f κ) {σ : L2.St} {H : Hp} {Q : VK}
    (h : ∃ B ρ fs F, Sta X.K B O ρ σ fs F H ∧ Out X.K Y.cl Y.W σ B (fs.flatten ++ F) κ ((evE Y.Φ a ρ).bind fun x => (evE Y.Φ b ρ).bind fun y => f x y) Q) :
    tD X.K Y O a κa σ H fun x H1 => tD X.K Y O b κb σ H1 fun y H2 => r x y H2 Q := by
  obtain ⟨B, ρ, fs, F, S, h⟩ := h
  obtain ⟨h1, h2, h3⟩ := h.bind
  refine ⟨B, ρ, fs, F, S, Out.opnd h1 h2 fun dx ex x B1 H1 l1 o1 q1 => ?_⟩
  obtain ⟨g1, g2, g3⟩ := ((h3 dx ex).mono l1).bind
  have S1 := S.mono0 l1 o1
  refine ⟨B1, ρ, fs, F, S1, Out.opnd g1 g2 fun dy ey y B2 H2 l2 o2 q2 => ?_⟩
  exact hf σ B2 H2 _ Q x y dx dy o2 (q1.le l2 (Ov.leH (f := []) l2 o1 o2)) q2 ((g3 dy ey).mono l2)
theorem se_op {op : Operator} {r : R2} {o : B2} (ho : OpR X (binaryOp op) r) (hf : Op2 X Y r (dep κa) (dep κb) (evBin o) κ) (ha : PE X ea (tD X.K Y O a κa)) (hb : PE X eb (tD X.K Y O b κb)) :
    PE X (.BinOp ea op eb pos) (tD X.K Y O (.bin o a b) κ) :=
  PE.imp (pe_op ho ha hb) fun σ H Q ⟨B, ρ, fs, F, S, h⟩ => by
    simp only [evE] at h
    exact two hf ⟨B, ρ, fs, F, S, h⟩
theorem se_cmp {r : R2} {o : Cp} (ho : OpR X (compareOp (cpOf o)) r) (hf : Op2 X Y r (dep κa) (dep κb) (evCp o) κ) (ha : PE X ea (tD X.K Y O a κa)) (hb : PE X eb (tD X.K Y O b κb)) (hm : behindInMarks (cpOf o) eb = false) :
    PE X (.Compare ea [cpOf o] [eb] pos) (tD X.K Y O (.cmp o a b) κ) :=
  PE.imp (pe_cmpR ho ha hb hm) fun σ H Q ⟨B, ρ, fs, F, S, h⟩ => by
    simp only [evE] at h
    exact two hf ⟨B, ρ, fs, F, S, h⟩
theorem se_ix {r : R2} {κ : OS} (ho : IxR X r) (hf : Op2 X Y r (dep κa) (dep κb) evIx κ) (ha : PE X ea (tD X.K Y O a κa)) (hb : PE X eb (tD X.K Y O b κb)) (hs : PlainIx eb) :
    PE X (.Subscript ea eb pos) (tD X.K Y O (.ix a b) κ) :=
  PE.imp (pe_ix ho ha hb hs) fun σ H Q ⟨B, ρ, fs, F, S, h⟩ => by
    simp only [evE] at h
    exact two hf ⟨B, ρ, fs, F, S, h⟩
end
section
variable {X : Cx} {Y : Wd} {da db : Nat}
theorem Out.ne {K : PySem.W.Frag} {cl : Str → Option Addr} {W : WX} {σ : L2.St} {B : Hp} {cs : Fp} {κ : OS} {Q : VK} {r : R D} (h : Out K cl W σ B cs κ r Q) (e : r = .stuck) : False := by rw [e] at h; exact h
def rAddA (K : PySem.W.Frag) : R2 := fun x y H Q => rI0 (fun i j => .int (i + j)) x y H Q ∨ rCat x y H Q ∨ rCatA K x y H Q
theorem op_addA : OpR X (binaryOp .Add) (rAddA X.K) := OpR.or op_add (OpR.or op_cat op_catA)
theorem o2_add (ha : da ≤ 1) (hb : db ≤ 1) : Op2 X Y (rAddA X.K) da db (evBin .add) (.own 1) := by
  intro σ B H cs Q x y dx dy ov qx qy h
  cases dx <;> cases dy <;> try (exact (Out.ne h rfl).elim)
  · simp only [evBin] at h
    exact .inl ⟨_, _, qx.int_inv, qy.int_inv, h.leaf ov (.int _) rfl⟩
  · simp only [evBin] at h
    obtain ⟨hz, h⟩ := h.guard
    obtain ⟨a, xs, e1, h1, _, r1⟩ := qx.flat_inv ov.le ha
    obtain ⟨b, ys, e2, h2, _, r2⟩ := qy.flat_inv ov.le hb
    have hz' : xs.length + ys.length ≤ sizeLine := by rw [r1.length, r2.length]; exact of_decide_eq_true hz
    exact .inr (.inl ⟨a, b, xs, ys, e1, e2, h1, h2, hz', fun p np => h.newL ov np (by rw [List.length_append]; exact hz') (r1.app r2)⟩)
  · simp only [evBin] at h
    obtain ⟨hz, h⟩ := h.guard
    have dx := Bp.leaf qx rfl
    have dy := Bp.leaf qy rfl
    obtain ⟨a, xs, e1, h1, _, r1⟩ := Dq.tuple_inv dx
    obtain ⟨b, ys, e2, h2, _, r2⟩ := Dq.tuple_inv dy
    have hz' : xs.length + ys.length ≤ sizeLine := by rw [r1.length, r2.length]; exact of_decide_eq_true hz
    refine .inr (.inr ⟨a, b, xs, ys, e1, e2, ov.le.sqt h1, ov.le.sqt h2, hz', fun z => ?_, fun _ z => ?_, fun _ _ p np => ?_⟩)
    · subst z
      cases r1
      rw [List.nil_append] at h
      rw [← e2]
      exact h.leaf ov dy rfl
    · subst z
      cases r2
      rw [List.append_nil] at h
      rw [← e1]
      exact h.leaf ov dx rfl
    · exact h.newT ov np (by rw [List.length_append]; exact hz') (r1.app r2)
theorem o2_sub : Op2 X Y (rI0 fun i j => .int (i - j)) da db (evBin .sub) (.own 1) := by
  intro σ B H cs Q x y dx dy ov qx qy h
  cases dx <;> cases dy <;> try (exact (Out.ne h rfl).elim)
  simp only [evBin] at h
  exact ⟨_, _, qx.int_inv, qy.int_inv, h.leaf ov (.int _) rfl⟩
def rMulA : R2 := fun x y H Q => rI CMulW (fun i j => .int (i * j)) x y H Q ∨ rRep x y H Q
theorem op_mulA : OpR X (binaryOp .Mult) rMulA := OpR.or op_mulW op_rep
theorem rep_len {α : Type} (k : Nat) (xs : List α) : (List.replicate k xs).flatten.length = k * xs.length := by
  induction k with
  | zero => simp
  | succ k ih => rw [List.replicate_succ, List.flatten_cons, List.length_append, ih, Nat.succ_mul, Nat.add_comm]
theorem o2_mul (ha : da ≤ 1) : Op2 X Y rMulA da db (evBin .mul) (.own 1) := by
  intro σ B H cs Q x y dx dy ov qx qy h
  cases dx <;> cases dy <;> try (exact (Out.ne h rfl).elim)
  · simp only [evBin] at h
    obtain ⟨hz, h⟩ := h.guard
    exact .inl ⟨_, _, qx.int_inv, qy.int_inv, @of_decide_eq_true (_ < 1000000) _ hz, h.leaf ov (.int _) rfl⟩
  · rename_i ds k
    simp only [evBin] at h
    obtain ⟨hz, h⟩ := h.guard
    simp only [Bool.and_eq_true] at hz
    obtain ⟨⟨h1, h2⟩, h3⟩ := hz
    obtain ⟨a, xs, e1, q1, _, r1⟩ := qx.flat_inv ov.le ha
    have h3' : xs.length * k.toNat ≤ sizeLine := by rw [r1.length]; exact of_decide_eq_true h3
    exact .inr ⟨a, k, xs, e1, qy.int_inv, q1, of_decide_eq_true h1, of_decide_eq_true h2, h3', fun p np => h.newL ov np (by rw [rep_len, Nat.mul_comm]; exact h3') (r1.rep _)⟩
theorem o2_fdiv : Op2 X Y (rI CDivW fun i j => .int (i / j)) da db (evBin .fdiv) (.own 1) := by
  intro σ B H cs Q x y dx dy ov qx qy h
  cases dx <;> cases dy <;> try (exact (Out.ne h rfl).elim)
  simp only [evBin] at h
  obtain ⟨hz, h⟩ := h.guard
  simp only [Bool.and_eq_true] at hz
  exact ⟨_, _, qx.int_inv, qy.int_inv, ⟨of_decide_eq_true hz.1, of_decide_eq_true hz.2⟩, h.leaf ov (.int _) rfl⟩
theorem o2_mod : Op2 X Y (rI (fun _ j => 0 < j) fun i j => .int (i % j)) da db (evBin .mod) (.own 1) := by
  intro σ B H cs Q x y dx dy ov qx qy h
  cases dx <;> cases dy <;> try (exact (Out.ne h rfl).elim)
  simp only [evBin] at h
  obtain ⟨hz, h⟩ := h.guard
  exact ⟨_, _, qx.int_inv, qy.int_inv, of_decide_eq_true hz, h.leaf ov (.int _) rfl⟩
theorem o2_pow : Op2 X Y (rI CPow fun i j => .int (i ^ j.toNat)) da db (evBin .pow) (.own 1) := by
  intro σ B H cs Q x y dx dy ov qx qy h
  cases dx <;> cases dy <;> try (exact (Out.ne h rfl).elim)
  simp only [evBin] at h
  obtain ⟨hz, h⟩ := h.guard
  simp only [Bool.and_eq_true] at hz
  exact ⟨_, _, qx.int_inv, qy.int_inv, ⟨of_decide_eq_true hz.1.1, of_decide_eq_true hz.1.2, of_decide_eq_true hz.2⟩, h.leaf ov (.int _) rfl⟩
/-- all binary operations at once -/
theorem op_bin (o : B2) (ha : da ≤ 1) (hb : db ≤ 1) : ∃ r : R2, OpR X (binaryOp (opOf o)) r ∧ Op2 X Y r da db (evBin o) (.own 1) := by
  cases o with
  | add => exact ⟨_, op_addA, o2_add ha hb⟩
  | sub => exact ⟨_, op_sub, o2_sub⟩
  | mul => exact ⟨_, op_mulA, o2_mul ha⟩
  | fdiv => exact ⟨_, op_fdivW, o2_fdiv⟩
  | mod => exact ⟨_, op_mod, o2_mod⟩
  | pow => exact ⟨_, op_pow, o2_pow⟩
  | shl => exact ⟨_, op_shl, fun σ B H cs Q x y dx dy ov qx qy h => by cases dx <;> cases dy <;> exact (Out.ne h rfl).elim⟩
  | shr => exact ⟨_, op_shr, fun σ B H cs Q x y dx dy ov qx qy h => by cases dx <;> cases dy <;> exact (Out.ne h rfl).elim⟩
  | band => exact ⟨_, op_and, fun σ B H cs Q x y dx dy ov qx qy h => by cases dx <;> cases dy <;> exact (Out.ne h rfl).elim⟩
  | bor => exact ⟨_, op_or, fun σ B H cs Q x y dx dy ov qx qy h => by cases dx <;> cases dy <;> exact (Out.ne h rfl).elim⟩
section
variable {K : PySem.W.Frag} {B : Hp}
mutual
theorem Dq.dp : ∀ (d : D) (v : V), Dq K B v d → d.canLay0 = true → Dp K B v d
  | .none, _, h, _ => by cases h; exact .non
  | .bool b, _, h, _ => by cases h; exact .bl b
  | .int i, _, h, _ => by cases h; exact .int i
  | .str x, _, h, _ => by cases h; exact .str x
  | .list ds, _, h, l => by
    cases h with
    | lst s _ r => exact .lst (.of s) (DqL.dp ds _ r (by simpa [PyData.canLay0] using l))
  | .tuple ds, _, h, l => by
    cases h with
    | tup s _ r => exact .tup s (DqL.dp ds _ r (by simpa [PyData.canLay0] using l))
  | .dict ds, _, _, l => by simp [PyData.canLay0] at l
theorem DqL.dp : ∀ (ds : List D) (vs : List V), DqL K B vs ds → PyData.canLayAll0 ds = true → DpAll K B vs ds
  | [], _, h, _ => by cases h; exact .nil
  | d :: ds, _, h, l => by
    simp only [PyData.canLayAll0, Bool.and_eq_true] at l
    cases h with
    | cons x r => exact .cons (Dq.dp d _ x l.1) (DqL.dp ds _ r l.2)
end
theorem Dq.shaped {v : V} {d : D} (h : Dq K B v d) (s : SeqAt.shaped d = true) : Dp K B v d := Dq.dp d v h (SeqAt.canLay_of_shaped s)
end
theorem op_cp (hu : X.A.units + 200 < cLine) (o : Cp) (n : Nat) : ∃ r : R2, OpR X (compareOp (cpOf o)) r ∧ (Op2 X Y r da db (evCp o) (.own n)) := by
  cases o with
  | eq =>
    refine ⟨_, op_eqD (by omega), fun σ B H cs Q x y dx dy ov qx qy h => ?_⟩
    simp only [evCp] at h
    obtain ⟨hz, h⟩ := h.guard
    simp only [Bool.and_eq_true] at hz
    exact ⟨dx, dy, (qx.dq ov.le).shaped hz.1, (qy.dq ov.le).shaped hz.2, hz.1, hz.2, h.leaf ov (.bl _) rfl⟩
  | ne =>
    refine ⟨_, op_neD (by omega), fun σ B H cs Q x y dx dy ov qx qy h => ?_⟩
    simp only [evCp] at h
    obtain ⟨hz, h⟩ := h.guard
    simp only [Bool.and_eq_true] at hz
    exact ⟨dx, dy, (qx.dq ov.le).shaped hz.1, (qy.dq ov.le).shaped hz.2, hz.1, hz.2, h.leaf ov (.bl _) rfl⟩
  | lt =>
    refine ⟨_, op_lt, fun σ B H cs Q x y dx dy ov qx qy h => ?_⟩
    cases dx <;> cases dy <;> try (exact (Out.ne h rfl).elim)
    simp only [evCp] at h
    exact ⟨_, _, qx.int_inv, qy.int_inv, h.leaf ov (.bl _) rfl⟩
  | le =>
    refine ⟨_, op_le, fun σ B H cs Q x y dx dy ov qx qy h => ?_⟩
    cases dx <;> cases dy <;> try (exact (Out.ne h rfl).elim)
    simp only [evCp] at h
    exact ⟨_, _, qx.int_inv, qy.int_inv, h.leaf ov (.bl _) rfl⟩
  | gt =>
    refine ⟨_, op_gt, fun σ B H cs Q x y dx dy ov qx qy h => ?_⟩
    cases dx <;> cases dy <;> try (exact (Out.ne h rfl).elim)
    simp only [evCp] at h
    exact ⟨_, _, qx.int_inv, qy.int_inv, h.leaf ov (.bl _) rfl⟩
  | ge =>
    refine ⟨_, op_ge, fun σ B H cs Q x y dx dy ov qx qy h => ?_⟩
    cases dx <;> cases dy <;> try (exact (Out.ne h rfl).elim)
    simp only [evCp] at h
    exact ⟨_, _, qx.int_inv, qy.int_inv, h.leaf ov (.bl _) rfl⟩
  | inn =>
    refine ⟨_, op_inX (by omega), fun σ B H cs Q x y dx dy ov qx qy h => ?_⟩
    cases dy <;> try (cases dx <;> exact (Out.ne h rfl).elim)
    · rename_i ds
      have h : Out X.K Y.cl Y.W σ B cs (.own n) (guard (SeqAt.shaped dx && SeqAt.shaped (.list ds)) (.ok (.bool (ds.any fun z => PyData.eqv z dx)))) Q := by cases dx <;> exact h
      obtain ⟨hz, h⟩ := h.guard
      simp only [Bool.and_eq_true] at hz
      exact .inl ⟨dx, ds, (qx.dq ov.le).shaped hz.1, (qy.dq ov.le).shaped hz.2, hz.1, hz.2, h.leaf ov (.bl _) rfl⟩
    · rename_i ds
      have h : Out X.K Y.cl Y.W σ B cs (.own n) (guard (SeqAt.shaped dx && SeqAt.shaped (.tuple ds)) (.ok (.bool (ds.any fun z => PyData.eqv z dx)))) Q := by cases dx <;> exact h
      obtain ⟨hz, h⟩ := h.guard
      simp only [Bool.and_eq_true] at hz
      exact .inr ⟨dx, ds, (qx.dq ov.le).shaped hz.1, (qy.dq ov.le).shaped hz.2, hz.1, hz.2, h.leaf ov (.bl _) rfl⟩
  | nin =>
    refine ⟨_, op_ninX (by omega), fun σ B H cs Q x y dx dy ov qx qy h => ?_⟩
    cases dy <;> try (cases dx <;> exact (Out.ne h rfl).elim)
    · rename_i ds
      have h : Out X.K Y.cl Y.W σ B cs (.own n) (guard (SeqAt.shaped dx && SeqAt.shaped (.list ds)) (.ok (.bool (!ds.any fun z => PyData.eqv z dx)))) Q := by cases dx <;> exact h
      obtain ⟨hz, h⟩ := h.guard
      simp only [Bool.and_eq_true] at hz
      exact .inl ⟨dx, ds, (qx.dq ov.le).shaped hz.1, (qy.dq ov.le).shaped hz.2, hz.1, hz.2, h.leaf ov (.bl _) rfl⟩
    · rename_i ds
      have h : Out X.K Y.cl Y.W σ B cs (.own n) (guard (SeqAt.shaped dx && SeqAt.shaped (.tuple ds)) (.ok (.bool (!ds.any fun z => PyData.eqv z dx)))) Q := by cases dx <;> exact h
      obtain ⟨hz, h⟩ := h.guard
      simp only [Bool.and_eq_true] at hz
      exact .inr ⟨dx, ds, (qx.dq ov.le).shaped hz.1, (qy.dq ov.le).shaped hz.2, hz.1, hz.2, h.leaf ov (.bl _) rfl⟩
  | isn =>
    refine ⟨_, op_isN, fun σ B H cs Q x y dx dy ov qx qy h => ?_⟩
    cases dy <;> try (cases dx <;> exact (Out.ne h rfl).elim)
    have ey : y = .non := (qy.leaf rfl).none_inv
    refine ⟨ey, ?_⟩
    have h : Out X.K Y.cl Y.W σ B cs (.own n) (.ok (.bool (isNoneD dx))) Q := by cases dx <;> exact h
    have q := qx.dq ov.le
    have e : decide (x = V.non) = (isNoneD dx) := by cases q <;> rfl
    rw [e]
    exact h.leaf ov (.bl _) rfl
  | isnn =>
    refine ⟨_, op_notN, fun σ B H cs Q x y dx dy ov qx qy h => ?_⟩
    cases dy <;> try (cases dx <;> exact (Out.ne h rfl).elim)
    have ey : y = .non := (qy.leaf rfl).none_inv
    refine ⟨ey, ?_⟩
    have h : Out X.K Y.cl Y.W σ B cs (.own n) (.ok (.bool (!isNoneD dx))) Q := by cases dx <;> exact h
    have q := qx.dq ov.le
    have e : (!decide (x = V.non)) = (!isNoneD dx) := by cases q <;> rfl
    rw [e]
    exact h.leaf ov (.bl _) rfl
  | isb =>
    refine ⟨_, op_is_bl, fun σ B H cs Q x y dx dy ov qx qy h => ?_⟩
    cases dx <;> cases dy <;> try (exact (Out.ne h rfl).elim)
    simp only [evCp] at h
    exact ⟨_, _, qx.bl_inv, qy.bl_inv, h.leaf ov (.bl _) rfl⟩
  | isnb =>
    refine ⟨_, op_isnot_bl, fun σ B H cs Q x y dx dy ov qx qy h => ?_⟩
    cases dx <;> cases dy <;> try (exact (Out.ne h rfl).elim)
    simp only [evCp] at h
    exact ⟨_, _, qx.bl_inv, qy.bl_inv, h.leaf ov (.bl _) rfl⟩
theorem atI_paired {α β : Type} {F : α → β → Prop} {xs : List α} {ys : List β} {i : Int} {y : β} (h : Paired F xs ys) (e : atI ys i = some y) : ∃ x, atI xs i = some x ∧ F x y := by
  unfold atI at e ⊢
  rw [Paired.len h]
  cases q : ixN ys.length i with
  | none => rw [q] at e; cases e
  | some j =>
    rw [q] at e
    obtain ⟨x, h1, h2⟩ := Paired.get' h (show ys[j]? = some y from e)
    exact ⟨x, h1, h2⟩
/-- what an item of a kind is -/
def itK (κ : OS) : OS := match κ with
  | .own _ => .own 0
  | .bor b => if b ≤ 1 then .own 0 else .bor (b - 1)
  | .dead => .dead
theorem Out.item {K : PySem.W.Frag} {cl : Str → Option Addr} {W : WX} {σ : L2.St} {B H : Hp} {cs : Fp} {κ : OS} {Q : VK} {v : V} {d : D} (hκ : κ ≠ .dead) (h : Out K cl W σ B cs (itK κ) (.ok d) Q) (o : Ov B cs H) (q : Bp K B H (dep κ - 1) v d) : Q v H := by
  cases κ with
  | own n => exact h.frz o q
  | bor b =>
    simp only [itK] at h
    by_cases hb : b ≤ 1
    · rw [if_pos hb] at h
      have e : dep (.bor b) - 1 = 0 := by simp only [dep]; omega
      rw [e] at q
      exact h.frz o q
    · rw [if_neg hb] at h
      exact h.bor o q
  | dead => exact absurd rfl hκ
theorem op_ix {κ : OS} (hκ : κ ≠ .dead) : ∃ r : R2, IxR X r ∧ Op2 X Y r (dep κ) db evIx (itK κ) := by
  refine ⟨_, IxR.or ix_list ix_tup, fun σ B H cs Q x y dx dy ov qx qy h => ?_⟩
  cases dx <;> cases dy <;> try (exact (Out.ne h rfl).elim)
  · rename_i ds i
    simp only [evIx] at h
    cases e : atI ds i with
    | none => rw [e] at h; exact h.elim
    | some d =>
      rw [e] at h
      obtain ⟨a, xs, e1, h1, _, r1⟩ := qx.list_inv ov.le
      obtain ⟨v, e2, q2⟩ := atI_paired r1 e
      exact .inl ⟨a, xs, i, v, e1, qy.int_inv, .of h1, e2, Out.item hκ h ov q2⟩
  · rename_i ds i
    simp only [evIx] at h
    cases e : atI ds i with
    | none => rw [e] at h; exact h.elim
    | some d =>
      rw [e] at h
      obtain ⟨a, xs, e1, h1, _, r1⟩ := Dq.tuple_inv (qx.leaf rfl)
      obtain ⟨v, e2, q2⟩ := atI_paired (of_dqL r1) e
      refine .inr ⟨a, xs, i, v, e1, qy.int_inv, ov.le.sqt h1, e2, ?_⟩
      cases κ with
      | own n => exact h.frz ov q2
      | bor b =>
        simp only [itK] at h
        by_cases hb : b ≤ 1
        · rw [if_pos hb] at h; exact h.frz ov q2
        · rw [if_neg hb] at h
          exact h.bor ov (Bp.of q2)
      | dead => exact absurd rfl hκ
  · rename_i kvs i
    simp only [evIx] at h
    cases er : rdOf kvs with
    | none => rw [er] at h; exact h.elim
    | some ds =>
      rw [er] at h
      cases e : atI ds i with
      | none => simp only [e] at h; exact h.elim
      | some d =>
        simp only [e] at h
        obtain ⟨a, xs, e1, h1, r1⟩ := qx.rd_inv er
        obtain ⟨v, e2, q2⟩ := atI_paired (of_dqL r1) e
        exact .inl ⟨a, xs, i, v, e1, qy.int_inv, ov.le.sql h1, e2, Out.item hκ h ov (Bp.of q2)⟩
end
end DL
set_option Elab.async false
set_option linter.all false
set_option maxRecDepth 100000
set_option maxHeartbeats 1000000
namespace DL
open PySem PySem.Spec PyProof.Rows L2
theorem nz_int (n : Nat) : ((n : Int) != 0) = (n != 0) := by
  cases n with
  | zero => rfl
  | succ n => simp [bne, BEq.beq]; omega
theorem dqL_empty {K : PySem.W.Frag} {B : Hp} {xs : List V} {ds : List D} (h : DqL K B xs ds) : (!xs.isEmpty) = !ds.isEmpty := by cases h <;> rfl
theorem tru_of {K : PySem.W.Frag} {H : Hp} {v : V} {d : D} (h : Dq K H v d) (t : tOk d = true) : TruV K v H (truthy d) := by
  cases h with
  | non => rfl
  | bl b => rfl
  | int i => rfl
  | str x => exact ⟨of_decide_eq_true t, (nz_int _).symm⟩
  | lst s _ r => exact .inl ⟨_, .of s, (dqL_empty r).symm⟩
  | tup s _ r => exact .inr (.inl ⟨_, s, (dqL_empty r).symm⟩)
  | rdl => cases t
  | er => cases t
  | dk => cases t
  | dt => cases t
def OutT (K : PySem.W.Frag) (cl : Str → Option Addr) (W : WX) (σ : L2.St) (B : Hp) (cs : Fp) (r : R Bool) (Q : Bool → Hp → Prop) : Prop := match r with
  | .ok b => ∀ B' H', Le B B' → Ov B' cs H' → Q b H'
  | .exc c i => Exc K cl W σ B c i
  | .stuck => False
def tDT (K : PySem.W.Frag) (Y : Wd) (O : List SK) (c : C) : TT := fun σ H Q => ∃ B ρ fs F, Sta K B O ρ σ fs F H ∧ OutT K Y.cl Y.W σ B (fs.flatten ++ F) ((evE Y.Φ c ρ).bind tst) Q
section
variable {K : PySem.W.Frag} {cl : Str → Option Addr} {W : WX} {σ : L2.St} {B B' H H' : Hp} {cs : Fp} {Q : Bool → Hp → Prop}
theorem OutT.mono {r : R Bool} (e : Le B B') (h : OutT K cl W σ B cs r Q) : OutT K cl W σ B' cs r Q := by
  cases r with
  | ok d => exact fun B2 H2 l o => h B2 H2 (e.trans l) o
  | exc c i => exact Exc.mono e h
  | stuck => exact h
theorem OutT.bind {α : Type} {r : R α} {f : α → R Bool} (h : OutT K cl W σ B cs (r.bind f) Q) : r ≠ .stuck ∧ (∀ c i, r = .exc c i → Exc K cl W σ B c i) ∧ ∀ d, r = .ok d → OutT K cl W σ B cs (f d) Q := by
  cases r with
  | ok d => exact ⟨(fun q => nomatch q), (fun _ _ q => nomatch q), fun d' q => by cases q; exact h⟩
  | exc c i => exact ⟨(fun q => nomatch q), (fun c' i' q => by cases q; exact h), (fun _ q => nomatch q)⟩
  | stuck => exact h.elim
theorem OutT.tst {d : D} (h : OutT K cl W σ B cs (tst d) Q) : tOk d = true ∧ OutT K cl W σ B cs (.ok (truthy d)) Q := by
  unfold DL.tst DL.guard at h
  by_cases t : tOk d = true
  · rw [if_pos t] at h; exact ⟨t, h⟩
  · rw [if_neg t] at h; exact h.elim
theorem OutT.of {r : R Bool} (hs : r ≠ .stuck) (hx : ∀ c i, r = .exc c i → Exc K cl W σ B c i) (h : ∀ b, r = .ok b → ∀ B' H', Le B B' → Ov B' cs H' → Q b H') : OutT K cl W σ B cs r Q := by
  cases r with
  | ok d => exact h d rfl
  | exc c i => exact hx c i rfl
  | stuck => exact absurd rfl hs
end
section
variable {X : Cx} {Y : Wd} {O : List SK} {e ea eb ec : Expr} {a b c : C} {κ κa κb κc : OS} {pos : Pos}
theorem st_val (ha : PE X e (tD X.K Y O a κ)) (he : ∀ whole, isTrue e X.env whole = (do let v ← whole; standAt e.pos; holding [v] (PySem.truthy v))) : PT X e (tDT X.K Y O a) := by
  refine PT.imp (pt_truth ha he) fun σ H Q ⟨B, ρ, fs, F, S, h⟩ => ?_
  obtain ⟨h1, h2, h3⟩ := h.bind
  refine ⟨B, ρ, fs, F, S, Out.opnd h1 h2 fun d ed v B1 H1 l1 o1 q1 => ?_⟩
  obtain ⟨t, g⟩ := (h3 d ed).tst
  exact ⟨_, tru_of (q1.dq o1.le) t, g B1 H1 l1 o1⟩
theorem st_not (ha : PT X e (tDT X.K Y O a)) : PT X (.UnaryOp .Not e pos) (tDT X.K Y O (.not a)) := by
  refine PT.imp (pt_not ha) fun σ H Q ⟨B, ρ, fs, F, S, h⟩ => ⟨B, ρ, fs, F, S, ?_⟩
  simp only [evE] at h
  obtain ⟨h1, h2, h3⟩ := h.bind
  cases q : (evE Y.Φ a ρ).bind tst with
  | ok k =>
    rw [q] at h
    exact h
  | exc c i =>
    rw [q] at h
    exact h
  | stuck =>
    rw [q] at h
    exact h.elim
theorem se_not (ha : PE X e (tD X.K Y O a κ)) {n : Nat} : PE X (.UnaryOp .Not e pos) (tD X.K Y O (.not a) (.own n)) := by
  refine PE.imp (pe_notT ha) fun σ H Q ⟨B, ρ, fs, F, S, h⟩ => ?_
  simp only [evE] at h
  obtain ⟨h1, h2, h3⟩ := h.bind
  have hh : ∀ d, evE Y.Φ a ρ = .ok d → tOk d = true ∧ Out X.K Y.cl Y.W σ B (fs.flatten ++ F) (.own n) (.ok (.bool (!truthy d))) Q := fun d ed => by
    rw [ed] at h
    have h : Out X.K Y.cl Y.W σ B (fs.flatten ++ F) (.own n) ((tst d).bind fun x => .ok (.bool (!x))) Q := h
    unfold tst DL.guard at h
    by_cases t : tOk d = true
    · rw [if_pos t] at h; exact ⟨t, h⟩
    · rw [if_neg t] at h; exact h.elim
  have g1 : evE Y.Φ a ρ ≠ .stuck := fun z => by rw [z] at h1; exact h1 rfl
  refine ⟨B, ρ, fs, F, S, Out.opnd g1 (fun c i z => h2 c i (by rw [z]; rfl)) fun d ed v B1 H1 l1 o1 q1 => ?_⟩
  obtain ⟨t, g⟩ := hh d ed
  exact ⟨_, tru_of (q1.dq o1.le) t, (g.mono l1).leaf o1 (.bl _) rfl⟩
/-- a test that decides between two values -/
theorem Out.tstB {K : PySem.W.Frag} {cl : Str → Option Addr} {W : WX} {σ : L2.St} {B : Hp} {cs : Fp} {κ : OS} {Q : VK} {d : D} {f : Bool → R D} (h : Out K cl W σ B cs κ ((tst d).bind f) Q) : tOk d = true ∧ Out K cl W σ B cs κ (f (truthy d)) Q := by
  unfold tst DL.guard at h
  by_cases t : tOk d = true
  · rw [if_pos t] at h; exact ⟨t, h⟩
  · rw [if_neg t] at h; exact h.elim
/-- a value of more is one of less -/
theorem Rs.meet {K : PySem.W.Frag} {B H : Hp} {cs f : Fp} {κ κ' : OS} {v : V} {d : D} (o : Ov B (f ++ cs) H) (h : Rs K B H κ v d f) (k : (∃ n m, κ = .own n ∧ κ' = .own m ∧ m ≤ n) ∨ (∃ n b, κ = .own n ∧ κ' = .bor b) ∨ κ = κ') :
    ∃ B' f', Le B B' ∧ Ov B' (f' ++ cs) H ∧ Rs K B' H κ' v d f' := by
  rcases k with ⟨n, m, rfl, rfl, l⟩ | ⟨n, b, rfl, rfl⟩ | rfl
  · obtain ⟨B', f', l1, o1, q⟩ := Rp.weak l (h : Rp K B n v d f) o
    exact ⟨B', f', l1, o1, q⟩
  · obtain ⟨B', l, m, o1⟩ := o.absorb
    exact ⟨B', [], l, o1, rfl, Bp.of ((h : Rp K B n v d f).dq l m)⟩
  · exact ⟨B, f, Le.refl _, o, h⟩
def KLe (κ κ' : OS) : Prop := (∃ n m, κ = .own n ∧ κ' = .own m ∧ m ≤ n) ∨ (∃ n b, κ = .own n ∧ κ' = .bor b) ∨ κ = κ'
theorem Out.weak {K : PySem.W.Frag} {cl : Str → Option Addr} {W : WX} {σ : L2.St} {B : Hp} {cs : Fp} {κ κ' : OS} {Q : VK} {r : R D} (k : KLe κ κ') (h : Out K cl W σ B cs κ' r Q) : Out K cl W σ B cs κ r Q := by
  cases r with
  | ok d =>
    intro v B' f H' l o q
    obtain ⟨B2, f2, l2, o2, q2⟩ := q.meet o k
    exact h v B2 f2 H' (l.trans l2) o2 q2
  | exc c i => exact h
  | stuck => exact h
theorem meetK_le {x y z : OS} (h : meetK x y = some z) : KLe x z ∧ KLe y z := by
  cases x with
  | own n =>
    cases y with
    | own m => simp only [meetK, Option.some.injEq] at h; subst h; exact ⟨.inl ⟨_, _, rfl, rfl, Nat.min_le_left _ _⟩, .inl ⟨_, _, rfl, rfl, Nat.min_le_right _ _⟩⟩
    | bor b => simp only [meetK, Option.some.injEq] at h; subst h; exact ⟨.inr (.inl ⟨_, _, rfl, rfl⟩), .inr (.inr rfl)⟩
    | dead => simp [meetK] at h
  | bor b =>
    cases y with
    | own m => simp only [meetK, Option.some.injEq] at h; subst h; exact ⟨.inr (.inr rfl), .inr (.inl ⟨_, _, rfl, rfl⟩)⟩
    | bor c =>
      simp only [meetK] at h
      by_cases e : b = c
      · rw [if_pos e] at h; cases h; subst e; exact ⟨.inr (.inr rfl), .inr (.inr rfl)⟩
      · rw [if_neg e] at h; cases h
    | dead => simp [meetK] at h
  | dead => cases y <;> simp [meetK] at h
def tDA (K : PySem.W.Frag) (Y : Wd) (O : List SK) (c : C) (κ : OS) : TE := fun σ H Q => ∃ B ρ fs F, Sta K B O ρ σ fs F H ∧ Out K Y.cl Y.W σ B (fs.flatten ++ F) κ (evA Y.Φ c ρ) Q
def tDO (K : PySem.W.Frag) (Y : Wd) (O : List SK) (c : C) (κ : OS) : TE := fun σ H Q => ∃ B ρ fs F, Sta K B O ρ σ fs F H ∧ Out K Y.cl Y.W σ B (fs.flatten ++ F) κ (evO Y.Φ c ρ) Q
def tTA (K : PySem.W.Frag) (Y : Wd) (O : List SK) (c : C) : TT := fun σ H Q => ∃ B ρ fs F, Sta K B O ρ σ fs F H ∧ OutT K Y.cl Y.W σ B (fs.flatten ++ F) ((evA Y.Φ c ρ).bind tst) Q
def tTO (K : PySem.W.Frag) (Y : Wd) (O : List SK) (c : C) : TT := fun σ H Q => ∃ B ρ fs F, Sta K B O ρ σ fs F H ∧ OutT K Y.cl Y.W σ B (fs.flatten ++ F) ((evO Y.Φ c ρ).bind tst) Q
theorem sa_one (ha : PE X ea (tD X.K Y O a κ)) : PE X (.BoolOp .And [ea] pos) (tDA X.K Y O (.cons a .nil) κ) := by
  refine PE.imp (pe_one ha) fun σ H Q ⟨B, ρ, fs, F, S, h⟩ => ⟨B, ρ, fs, F, S, ?_⟩
  simp only [evA, isNil, if_true] at h
  cases q : evE Y.Φ a ρ <;> (rw [q] at h; exact h)
theorem so_one (ha : PE X ea (tD X.K Y O a κ)) : PE X (.BoolOp .Or [ea] pos) (tDO X.K Y O (.cons a .nil) κ) := by
  refine PE.imp (pe_one ha) fun σ H Q ⟨B, ρ, fs, F, S, h⟩ => ⟨B, ρ, fs, F, S, ?_⟩
  simp only [evO, isNil, if_true] at h
  cases q : evE Y.Φ a ρ <;> (rw [q] at h; exact h)
/-- a value that may be handed on, or tried -/
theorem Out.both {K : PySem.W.Frag} {cl : Str → Option Addr} {W : WX} {σ : L2.St} {B : Hp} {cs : Fp} {κ κa : OS} {Q Q1 : VK} {r : R D} {f : D → R D} (k : KLe κa κ) (h : Out K cl W σ B cs κ (r.bind f) Q)
    (hq : ∀ d v B1 f1 H1, r = .ok d → Le B B1 → Ov B1 (f1 ++ cs) H1 → Rs K B1 H1 κ v d f1 → Dq K H1 v d → Out K cl W σ B1 cs κ (f d) Q → Q1 v H1) : Out K cl W σ B cs κa r Q1 := by
  obtain ⟨h1, h2, h3⟩ := h.bind
  cases r with
  | ok d =>
    intro v B' f' H' l o q
    have dq : Dq K H' v d := by
      cases κa with
      | own n => exact (q : Rp K B' n v d f').dq o.le fun a u m => (o.own a u (List.mem_append_left _ m)).1
      | bor b => exact (q.2 : Bp K B' H' b v d).dq o.le
      | dead => exact q.elim
    obtain ⟨B2, f2, l2, o2, q2⟩ := q.meet o k
    exact hq d v B2 f2 H' rfl (l.trans l2) o2 q2 dq ((h3 d rfl).mono (l.trans l2))
  | exc c i => exact h2 c i rfl
  | stuck => exact absurd rfl h1
theorem sa_cons {as : C} {es : List Expr} (hn : isNil as = false) (ha : PE X ea (tD X.K Y O a κa)) (hb : PE X (.BoolOp .And (eb :: es) pos) (tDA X.K Y O as κb)) (hk : meetK κa κb = some κ) : PE X (.BoolOp .And (ea :: eb :: es) pos) (tDA X.K Y O (.cons a as) κ) := by
  refine PE.imp (pe_andT ha hb) fun σ H Q ⟨B, ρ, fs, F, S, h⟩ => ⟨B, ρ, fs, F, S, ?_⟩
  simp only [evA, hn, Bool.false_eq_true, if_false] at h
  refine Out.both (meetK_le hk).1 h fun d v B1 f1 H1 ed l1 o1 q1 dq g => ?_
  obtain ⟨t, g⟩ := g.tstB
  refine ⟨truthy d, tru_of dq t, ?_⟩
  cases e : truthy d with
  | true =>
    rw [e, if_pos rfl] at g
    rw [if_pos rfl]
    obtain ⟨B2, l2, o2, _⟩ := q1.opnd o1
    exact ⟨B2, ρ, fs, F, S.mono0 (l1.trans l2) o2, Out.weak (meetK_le hk).2 (g.mono l2)⟩
  | false =>
    rw [e, if_neg Bool.false_ne_true] at g
    rw [if_neg Bool.false_ne_true]
    exact g v B1 f1 H1 (Le.refl _) o1 q1
theorem so_cons {as : C} {es : List Expr} (hn : isNil as = false) (ha : PE X ea (tD X.K Y O a κa)) (hb : PE X (.BoolOp .Or (eb :: es) pos) (tDO X.K Y O as κb)) (hk : meetK κa κb = some κ) : PE X (.BoolOp .Or (ea :: eb :: es) pos) (tDO X.K Y O (.cons a as) κ) := by
  refine PE.imp (pe_orT ha hb) fun σ H Q ⟨B, ρ, fs, F, S, h⟩ => ⟨B, ρ, fs, F, S, ?_⟩
  simp only [evO, hn, Bool.false_eq_true, if_false] at h
  refine Out.both (meetK_le hk).1 h fun d v B1 f1 H1 ed l1 o1 q1 dq g => ?_
  obtain ⟨t, g⟩ := g.tstB
  refine ⟨truthy d, tru_of dq t, ?_⟩
  cases e : truthy d with
  | true =>
    rw [e, if_pos rfl] at g
    rw [if_pos rfl]
    exact g v B1 f1 H1 (Le.refl _) o1 q1
  | false =>
    rw [e, if_neg Bool.false_ne_true] at g
    rw [if_neg Bool.false_ne_true]
    obtain ⟨B2, l2, o2, _⟩ := q1.opnd o1
    exact ⟨B2, ρ, fs, F, S.mono0 (l1.trans l2) o2, Out.weak (meetK_le hk).2 (g.mono l2)⟩
theorem ta_one (ha : PT X ea (tDT X.K Y O a)) : PW X (.BoolOp .And [ea] pos) (tTA X.K Y O (.cons a .nil)) := by
  have q := pw_and1 (pos := pos) ha
  refine ⟨fun wh pins s σ H Q I ⟨B, ρ, fs, F, S, h⟩ => q.run wh pins s σ H Q I ⟨B, ρ, fs, F, S, ?_⟩⟩
  simp only [evA, isNil, if_true] at h
  cases q : evE Y.Φ a ρ <;> (rw [q] at h; exact h)
theorem to_one (ha : PT X ea (tDT X.K Y O a)) : PW X (.BoolOp .Or [ea] pos) (tTO X.K Y O (.cons a .nil)) := by
  have q := pw_or1 (pos := pos) ha
  refine ⟨fun wh pins s σ H Q I ⟨B, ρ, fs, F, S, h⟩ => q.run wh pins s σ H Q I ⟨B, ρ, fs, F, S, ?_⟩⟩
  simp only [evO, isNil, if_true] at h
  cases q : evE Y.Φ a ρ <;> (rw [q] at h; exact h)
theorem bind_assoc {α β γ : Type} (r : R α) (f : α → R β) (g : β → R γ) : (r.bind f).bind g = r.bind fun x => (f x).bind g := by cases r <;> rfl
theorem ta_cons {as : C} {es : List Expr} (hn : isNil as = false) (ha : PT X ea (tDT X.K Y O a)) (hb : PW X (.BoolOp .And (eb :: es) pos) (tTA X.K Y O as)) : PW X (.BoolOp .And (ea :: eb :: es) pos) (tTA X.K Y O (.cons a as)) := by
  have q := pw_and ha hb
  refine ⟨fun wh pins s σ H Q I ⟨B, ρ, fs, F, S, h⟩ => q.run wh pins s σ H Q I ⟨B, ρ, fs, F, S, ?_⟩⟩
  simp only [evA, hn, Bool.false_eq_true, if_false] at h
  rw [bind_assoc] at h
  obtain ⟨h1, h2, h3⟩ := h.bind
  have hd : ∀ d, evE Y.Φ a ρ = .ok d → tOk d = true ∧ OutT X.K Y.cl Y.W σ B (fs.flatten ++ F) ((if truthy d then evA Y.Φ as ρ else .ok d).bind tst) Q := fun d ed => by
    have g := h3 d ed
    rw [bind_assoc] at g
    unfold tst DL.guard at g
    by_cases t : tOk d = true
    · rw [if_pos t] at g; exact ⟨t, g⟩
    · rw [if_neg t] at g; exact g.elim
  cases e : evE Y.Φ a ρ with
  | ok d =>
    obtain ⟨t, g⟩ := hd d e
    show OutT _ _ _ _ _ _ (tst d) _
    unfold tst DL.guard
    rw [if_pos t]
    intro B1 H1 l1 o1
    cases k : truthy d with
    | true =>
      rw [k, if_pos rfl] at g
      show if true = true then _ else _
      rw [if_pos rfl]
      exact ⟨B1, ρ, fs, F, S.mono0 l1 o1, g.mono l1⟩
    | false =>
      rw [k, if_neg Bool.false_ne_true] at g
      show if false = true then _ else _
      rw [if_neg Bool.false_ne_true]
      have g : OutT _ _ _ _ _ _ (tst d) _ := g
      have g2 := g.tst.2
      rw [k] at g2
      exact g2 B1 H1 l1 o1
  | exc c i => exact h2 c i e
  | stuck => exact absurd e h1
theorem to_cons {as : C} {es : List Expr} (hn : isNil as = false) (ha : PT X ea (tDT X.K Y O a)) (hb : PW X (.BoolOp .Or (eb :: es) pos) (tTO X.K Y O as)) : PW X (.BoolOp .Or (ea :: eb :: es) pos) (tTO X.K Y O (.cons a as)) := by
  have q := pw_or ha hb
  refine ⟨fun wh pins s σ H Q I ⟨B, ρ, fs, F, S, h⟩ => q.run wh pins s σ H Q I ⟨B, ρ, fs, F, S, ?_⟩⟩
  simp only [evO, hn, Bool.false_eq_true, if_false] at h
  rw [bind_assoc] at h
  obtain ⟨h1, h2, h3⟩ := h.bind
  have hd : ∀ d, evE Y.Φ a ρ = .ok d → tOk d = true ∧ OutT X.K Y.cl Y.W σ B (fs.flatten ++ F) ((if truthy d then .ok d else evO Y.Φ as ρ).bind tst) Q := fun d ed => by
    have g := h3 d ed
    rw [bind_assoc] at g
    unfold tst DL.guard at g
    by_cases t : tOk d = true
    · rw [if_pos t] at g; exact ⟨t, g⟩
    · rw [if_neg t] at g; exact g.elim
  cases e : evE Y.Φ a ρ with
  | ok d =>
    obtain ⟨t, g⟩ := hd d e
    show OutT _ _ _ _ _ _ (tst d) _
    unfold tst DL.guard
    rw [if_pos t]
    intro B1 H1 l1 o1
    cases k : truthy d with
    | true =>
      rw [k, if_pos rfl] at g
      show if true = true then _ else _
      rw [if_pos rfl]
      have g : OutT _ _ _ _ _ _ (tst d) _ := g
      have g2 := g.tst.2
      rw [k] at g2
      exact g2 B1 H1 l1 o1
    | false =>
      rw [k, if_neg Bool.false_ne_true] at g
      show if false = true then _ else _
      rw [if_neg Bool.false_ne_true]
      exact ⟨B1, ρ, fs, F, S.mono0 l1 o1, g.mono l1⟩
  | exc c i => exact h2 c i e
  | stuck => exact absurd e h1
end
end DL
set_option Elab.async false
set_option linter.all false
set_option maxRecDepth 100000
set_option maxHeartbeats 1000000
namespace DL
open PySem PySem.Spec PyProof.Rows L2
section
variable {X : Cx} {Y : Wd} {O : List SK} {e ea eb ec : Expr} {a b c : C} {κ κa κb κc : OS} {pos : Pos}
theorem se_neg {n : Nat} (ha : PE X e (tD X.K Y O a κ)) : PE X (.UnaryOp .USub e pos) (tD X.K Y O (.neg a) (.own n)) := by
  refine PE.imp (pe_un un_neg ha) fun σ H Q ⟨B, ρ, fs, F, S, h⟩ => ?_
  simp only [evE] at h
  obtain ⟨h1, h2, h3⟩ := h.bind
  refine ⟨B, ρ, fs, F, S, Out.opnd h1 h2 fun d ed v B1 H1 l1 o1 q1 => ?_⟩
  have g := (h3 d ed).mono l1
  cases d <;> try (exact (Out.ne g rfl).elim)
  exact ⟨_, q1.int_inv, g.leaf o1 (.int _) rfl⟩
theorem evCp_bool {o : Cp} {x y d : D} (h : evCp o x y = .ok d) : ∃ k, d = .bool k := by
  have gg : ∀ {b k : Bool}, DL.guard b (R.ok (PyData.bool k)) = .ok d → ∃ k, d = .bool k := fun {b k} h => by
    unfold DL.guard at h
    cases b with
    | true => rw [if_pos rfl] at h; cases h; exact ⟨_, rfl⟩
    | false => rw [if_neg Bool.false_ne_true] at h; cases h
  cases o <;> cases x <;> cases y <;> first
    | (simp only [evCp, reduceCtorEq] at h; done)
    | (simp only [evCp, R.ok.injEq] at h; exact ⟨_, h.symm⟩)
    | (simp only [evCp] at h; exact gg h)
theorem rp_bl {K : PySem.W.Frag} {B : Hp} {n : Nat} {v : V} {k : Bool} {f : Fp} (h : Rp K B n v (.bool k) f) : v = .bl k := by
  cases n with
  | zero => exact h.2.bool_inv
  | succ n =>
    rcases h with ⟨_, _, h⟩ | ⟨_, _, _, _, _, e, _⟩ | ⟨_, _, _, _, _, e, _⟩ | ⟨_, _, _, _, _, e, _⟩
    · exact h.bool_inv
    · cases e
    · cases e
    · cases e
/-- a test of a bool by its value -/
theorem OutT.val {K : PySem.W.Frag} {cl : Str → Option Addr} {W : WX} {σ : L2.St} {B : Hp} {cs : Fp} {n : Nat} {Q : Bool → Hp → Prop} {r : R D} (hb : ∀ d, r = .ok d → ∃ k, d = .bool k) (h : OutT K cl W σ B cs (r.bind DL.tst) Q) :
    Out K cl W σ B cs (.own n) r fun x H' => ∃ k, x = .bl k ∧ Q k H' := by
  cases r with
  | ok d =>
    obtain ⟨k, rfl⟩ := hb d rfl
    intro v B' f H' l o q
    obtain ⟨B2, l2, m2, o2⟩ := o.absorb
    exact ⟨k, rp_bl q, h B2 H' (l.trans l2) o2⟩
  | exc c i => exact h
  | stuck => exact h
theorem st_cmp {r : R2} {o : Cp} (ho : OpR X (compareOp (cpOf o)) r) (hf : Op2 X Y r (dep κa) (dep κb) (evCp o) (.own 50)) (ha : PE X ea (tD X.K Y O a κa)) (hb : PE X eb (tD X.K Y O b κb)) (hm : behindInMarks (cpOf o) eb = false) :
    PT X (.Compare ea [cpOf o] [eb] pos) (tDT X.K Y O (.cmp o a b)) :=
  PT.imp (pt_cmpR ho ha hb hm) fun σ H Q ⟨B, ρ, fs, F, S, h⟩ => by
    have g := h.val (n := 50) (fun d hd => by
      simp only [evE] at hd
      cases q1 : evE Y.Φ a ρ with
      | ok x =>
        rw [q1] at hd
        cases q2 : evE Y.Φ b ρ with
        | ok y =>
          rw [q2] at hd
          exact evCp_bool hd
        | exc c i => rw [q2] at hd; cases hd
        | stuck => rw [q2] at hd; cases hd
      | exc c i => rw [q1] at hd; cases hd
      | stuck => rw [q1] at hd; cases hd)
    simp only [evE] at g
    exact two hf ⟨B, ρ, fs, F, S, g⟩
/-- a chain of two comparisons -/
theorem chain_rd {r r' : R2} {o p : Cp} (hf : Op2 X Y r (dep κa) (dep κb) (evCp o) (.own 50)) (hf' : Op2 X Y r' (dep κb) (dep κc) (evCp p) κ) (hκ : κ = .own 50) {σ : L2.St} {H : Hp} {Q : VK}
    (h : ∃ B ρ fs F, Sta X.K B O ρ σ fs F H ∧ Out X.K Y.cl Y.W σ B (fs.flatten ++ F) κ (evE Y.Φ (.chn o p a b c) ρ) Q) : tChain r r' (tD X.K Y O a κa) (tD X.K Y O b κb) (tD X.K Y O c κc) σ H Q := by
  obtain ⟨B, ρ, fs, F, S, h⟩ := h
  simp only [evE] at h
  obtain ⟨h1, h2, h3⟩ := h.bind
  refine ⟨B, ρ, fs, F, S, Out.opnd h1 h2 fun dx ex x B1 H1 l1 o1 q1 => ?_⟩
  obtain ⟨g1, g2, g3⟩ := ((h3 dx ex).mono l1).bind
  have S1 := S.mono0 l1 o1
  refine ⟨B1, ρ, fs, F, S1, Out.opnd g1 g2 fun dy ey y B2 H2 l2 o2 q2 => ?_⟩
  have g := (g3 dy ey).mono l2
  refine hf σ B2 H2 _ _ x y dx dy o2 (q1.le l2 (Ov.leH (f := []) l2 o1 o2)) q2 ?_
  -- the first answer
  rw [bind_assoc] at g
  obtain ⟨k1, k2, k3⟩ := g.bind
  cases er : evCp o dx dy with
  | stuck => exact absurd er k1
  | exc c i => exact k2 c i er
  | ok d =>
    obtain ⟨k, rfl⟩ := evCp_bool er
    intro v B3 f3 H3 l3 o3 q3
    obtain ⟨B4, l4, m4, o4⟩ := o3.absorb
    refine ⟨k, rp_bl q3, ?_⟩
    have g4 := ((k3 _ er).mono (l3.trans l4)).tstB.2
    have S4 := (S1.mono0 l2 o2).mono0 (l3.trans l4) o4
    cases k with
    | false =>
      rw [if_neg Bool.false_ne_true]
      simp only [truthy, Bool.false_eq_true, if_false] at g4
      subst hκ
      exact g4.leaf o4 (.bl _) rfl
    | true =>
      rw [if_pos rfl]
      simp only [truthy, if_true] at g4
      obtain ⟨j1, j2, j3⟩ := g4.bind
      refine ⟨B4, ρ, fs, F, S4, Out.opnd j1 j2 fun dz ez z B5 H5 l5 o5 q5 => ?_⟩
      have lH : Le H2 H3 := Ov.leH (f := []) (l3.trans l4) o2 o4
      exact hf' σ B5 H5 _ _ y z dy dz o5 ((q2.le (l3.trans l4) lH).le l5 (Ov.leH (f := []) l5 o4 o5)) q5 ((j3 dz ez).mono l5)
theorem se_chn {r r' : R2} {o p : Cp} (ho : OpR X (compareOp (cpOf o)) r) (ho' : OpR X (compareOp (cpOf p)) r') (hf : Op2 X Y r (dep κa) (dep κb) (evCp o) (.own 50)) (hf' : Op2 X Y r' (dep κb) (dep κc) (evCp p) (.own 50))
    (ha : PE X ea (tD X.K Y O a κa)) (hb : PE X eb (tD X.K Y O b κb)) (hc : PE X ec (tD X.K Y O c κc)) (hm : lastMarks [cpOf o, cpOf p] [eb, ec] = false) :
    PE X (.Compare ea [cpOf o, cpOf p] [eb, ec] pos) (tD X.K Y O (.chn o p a b c) (.own 50)) :=
  PE.imp (pe_chain ho ho' ha hb hc hm) fun σ H Q h => chain_rd hf hf' rfl h
theorem st_chn {r r' : R2} {o p : Cp} (ho : OpR X (compareOp (cpOf o)) r) (ho' : OpR X (compareOp (cpOf p)) r') (hf : Op2 X Y r (dep κa) (dep κb) (evCp o) (.own 50)) (hf' : Op2 X Y r' (dep κb) (dep κc) (evCp p) (.own 50))
    (ha : PE X ea (tD X.K Y O a κa)) (hb : PE X eb (tD X.K Y O b κb)) (hc : PE X ec (tD X.K Y O c κc)) (hm : lastMarks [cpOf o, cpOf p] [eb, ec] = false) :
    PT X (.Compare ea [cpOf o, cpOf p] [eb, ec] pos) (tDT X.K Y O (.chn o p a b c)) :=
  PT.imp (pt_chain ho ho' ha hb hc hm) fun σ H Q ⟨B, ρ, fs, F, S, h⟩ => chain_rd hf hf' rfl ⟨B, ρ, fs, F, S, h.val fun d hd => by
    simp only [evE] at hd
    cases q1 : evE Y.Φ a ρ with
    | ok x =>
      rw [q1] at hd
      cases q2 : evE Y.Φ b ρ with
      | ok y =>
        rw [q2] at hd
        cases q3 : (evCp o x y).bind tst with
        | ok k =>
          have hd : ((evCp o x y).bind tst).bind _ = R.ok d := hd
          rw [q3] at hd
          cases k with
          | false =>
            have hd : R.ok (PyData.bool false) = R.ok d := hd
            cases hd; exact ⟨_, rfl⟩
          | true =>
            have hd : (evE Y.Φ c ρ).bind (fun z => evCp p y z) = R.ok d := hd
            cases q4 : evE Y.Φ c ρ with
            | ok z => rw [q4] at hd; exact evCp_bool hd
            | exc c i => rw [q4] at hd; cases hd
            | stuck => rw [q4] at hd; cases hd
        | exc c i =>
          have hd : ((evCp o x y).bind tst).bind _ = R.ok d := hd
          rw [q3] at hd; cases hd
        | stuck =>
          have hd : ((evCp o x y).bind tst).bind _ = R.ok d := hd
          rw [q3] at hd; cases hd
      | exc c i => rw [q2] at hd; cases hd
      | stuck => rw [q2] at hd; cases hd
    | exc c i => rw [q1] at hd; cases hd
    | stuck => rw [q1] at hd; cases hd⟩
def OutL {α : Type} (K : PySem.W.Frag) (cl : Str → Option Addr) (W : WX) (σ : L2.St) (B : Hp) (cs : Fp) (r : R α) (P : α → Hp → Hp → List V → Fp → Prop) (Q : List V → Hp → Prop) : Prop := match r with
  | .ok ds => ∀ vs B' f H', Le B B' → Ov B' (f ++ cs) H' → P ds B' H' vs f → Q vs H'
  | .exc c i => Exc K cl W σ B c i
  | .stuck => False
def RpG (K : PySem.W.Frag) (B : Hp) (r : Nat) (v : V) (d : D) (f : Fp) : Prop := ∃ n, r ≤ n ∧ Rp K B n v d f
def PO' (K : PySem.W.Frag) (r : Nat) (ds : List D) (B H : Hp) (vs : List V) (f : Fp) : Prop := All3 (RpG K B r) vs ds f
inductive BL (K : PySem.W.Frag) (B H : Hp) : List (Option OS) → List V → List D → Prop
  | nil : BL K B H [] [] []
  | cons {κ ks v vs d ds} : Bp K B H (dep κ) v d → BL K B H ks vs ds → BL K B H (some κ :: ks) (v :: vs) (d :: ds)
def PR' (K : PySem.W.Frag) (ks : List (Option OS)) (ds : List D) (B H : Hp) (vs : List V) (f : Fp) : Prop := f = [] ∧ BL K B H ks vs ds
def tAo (K : PySem.W.Frag) (Y : Wd) (O : List SK) (c : C) (r : Nat) : TA := fun σ H Q => ∃ B ρ fs F, Sta K B O ρ σ fs F H ∧ OutL K Y.cl Y.W σ B (fs.flatten ++ F) (evL Y.Φ c ρ) (PO' K r) Q
def tAr (K : PySem.W.Frag) (Y : Wd) (O : List SK) (c : C) (ks : List (Option OS)) : TA := fun σ H Q => ∃ B ρ fs F, Sta K B O ρ σ fs F H ∧ OutL K Y.cl Y.W σ B (fs.flatten ++ F) (evL Y.Φ c ρ) (PR' K ks) Q
theorem BL.le {K : PySem.W.Frag} {B B' H H' : Hp} (e : Le B B') (eH : Le H H') {ks : List (Option OS)} {vs : List V} {ds : List D} (h : BL K B H ks vs ds) : BL K B' H' ks vs ds := by
  induction h with
  | nil => exact .nil
  | cons q _ ih => exact .cons (q.le e eH) ih
theorem All3.mono {K : PySem.W.Frag} {B B' : Hp} {r : Nat} (e : Le B B') {vs : List V} {ds : List D} {f : Fp} (h : All3 (RpG K B r) vs ds f) : All3 (RpG K B' r) vs ds f := h.imp fun _ _ _ ⟨n, h1, h2⟩ => ⟨n, h1, h2.le e⟩
theorem OutL.bind {α β : Type} {K : PySem.W.Frag} {cl : Str → Option Addr} {W : WX} {σ : L2.St} {B : Hp} {cs : Fp} {r : R α} {g : α → R β} {P : β → Hp → Hp → List V → Fp → Prop} {Q : List V → Hp → Prop} (h : OutL K cl W σ B cs (r.bind g) P Q) :
    r ≠ .stuck ∧ (∀ c i, r = .exc c i → Exc K cl W σ B c i) ∧ ∀ d, r = .ok d → OutL K cl W σ B cs (g d) P Q := by
  cases r with
  | ok d => exact ⟨(fun q => nomatch q), (fun _ _ q => nomatch q), fun d' q => by cases q; exact h⟩
  | exc c i => exact ⟨(fun q => nomatch q), (fun c' i' q => by cases q; exact h), (fun _ q => nomatch q)⟩
  | stuck => exact h.elim
theorem OutL.mono {α : Type} {K : PySem.W.Frag} {cl : Str → Option Addr} {W : WX} {σ : L2.St} {B B' : Hp} {cs : Fp} {r : R α} {P : α → Hp → Hp → List V → Fp → Prop} {Q : List V → Hp → Prop} (e : Le B B') (h : OutL K cl W σ B cs r P Q) : OutL K cl W σ B' cs r P Q := by
  cases r with
  | ok d => exact fun vs B2 f H2 l o => h vs B2 f H2 (e.trans l) o
  | exc c i => exact Exc.mono e h
  | stuck => exact h
theorem ao_nil {r : Nat} : PA X [] (tAo X.K Y O .nil r) :=
  PA.imp pa_nil fun σ H Q ⟨B, ρ, fs, F, S, h⟩ => h [] B [] H (Le.refl _) S.ov .nil
theorem ar_nil : PA X [] (tAr X.K Y O .nil []) :=
  PA.imp pa_nil fun σ H Q ⟨B, ρ, fs, F, S, h⟩ => h [] B [] H (Le.refl _) S.ov ⟨rfl, .nil⟩
theorem ar_cons {as : C} {es : List Expr} {ks : List (Option OS)} (hs : starEach (ea :: es) X.env = (false, eval ea X.env) :: starEach es X.env) (ha : PE X ea (tD X.K Y O a κa)) (hb : PA X es (tAr X.K Y O as ks)) : PA X (ea :: es) (tAr X.K Y O (.cons a as) (some κa :: ks)) := by
  refine PA.imp (pa_cons ha hb hs) fun σ H Q ⟨B, ρ, fs, F, S, h⟩ => ?_
  simp only [evL] at h
  obtain ⟨h1, h2, h3⟩ := h.bind
  refine ⟨B, ρ, fs, F, S, Out.opnd h1 h2 fun d ed v B1 H1 l1 o1 q1 => ?_⟩
  obtain ⟨g1, g2, g3⟩ := ((h3 d ed).mono l1).bind
  refine ⟨B1, ρ, fs, F, S.mono0 l1 o1, ?_⟩
  cases e : evL Y.Φ as ρ with
  | stuck => exact absurd e g1
  | exc c i => exact g2 c i e
  | ok ds =>
    intro vs B2 f2 H2 l2 o2 ⟨e2, q2⟩
    subst e2
    exact g3 ds e (v :: vs) B2 [] H2 l2 o2 ⟨rfl, .cons (q1.le l2 (Ov.leH (f := []) l2 o1 o2)) q2⟩
theorem ao_cons {as : C} {es : List Expr} {n m r : Nat} (h1' : r ≤ n) (h2' : r ≤ m) (hs : starEach (ea :: es) X.env = (false, eval ea X.env) :: starEach es X.env) (ha : PE X ea (tD X.K Y O a (.own n))) (hb : PA X es (tAo X.K Y O as m)) : PA X (ea :: es) (tAo X.K Y O (.cons a as) r) := by
  refine PA.imp (pa_cons ha hb hs) fun σ H Q ⟨B, ρ, fs, F, S, h⟩ => ?_
  simp only [evL] at h
  obtain ⟨h1, h2, h3⟩ := h.bind
  refine ⟨B, ρ, fs, F, S, ?_⟩
  cases ed : evE Y.Φ a ρ with
  | stuck => exact absurd ed h1
  | exc c i => exact h2 c i ed
  | ok d =>
    intro v B1 f1 H1 l1 o1 q1
    obtain ⟨g1, g2, g3⟩ := ((h3 d ed).mono l1).bind
    refine ⟨B1, ρ, fs, f1 ++ F, S.mono l1 o1, ?_⟩
    cases e : evL Y.Φ as ρ with
    | stuck => exact absurd e g1
    | exc c i => exact g2 c i e
    | ok ds =>
      intro vs B2 f2 H2 l2 o2 q2
      refine g3 ds e (v :: vs) B2 (f1 ++ f2) H2 l2 (o2.perm ?_) (.cons ⟨n, h1', (q1 : Rp X.K B1 n v d f1).le l2⟩ (All3.imp q2 fun _ _ _ ⟨k, z1, z2⟩ => ⟨k, Nat.le_trans h2' z1, z2⟩))
      -- f2 ++ (fs.flatten ++ (f1 ++ F)) ~ (f1 ++ f2) ++ (fs.flatten ++ F)
      have p1 : (fs.flatten ++ (f1 ++ F)).Perm (f1 ++ (fs.flatten ++ F)) := by
        rw [← List.append_assoc, ← List.append_assoc]
        exact List.Perm.append_right _ List.perm_append_comm
      refine (List.Perm.append_left f2 p1).trans ?_
      rw [← List.append_assoc]
      exact List.Perm.append_right _ List.perm_append_comm
/-- items of at least r levels are made items of just r -/
theorem exact_r {K : PySem.W.Frag} {B : Hp} {r : Nat} {vs : List V} {ds : List D} {f cs : Fp} {H : Hp} (h : All3 (RpG K B r) vs ds f) (o : Ov B (f ++ cs) H) : ∃ B' f', Le B B' ∧ Ov B' (f' ++ cs) H ∧ All3 (Rp K B' r) vs ds f' :=
  All3.weakG (P := fun B => RpG K B r) (P' := fun B => Rp K B r) (fun _ _ _ _ _ e q => q.le e) (fun _ _ _ _ _ e ⟨n, h1, h2⟩ => ⟨n, h1, h2.le e⟩) (fun B a b f c H ⟨n, h1, h2⟩ o => Rp.weak h1 h2 o) h o
theorem dqL_all {K : PySem.W.Frag} {B : Hp} : ∀ {vs : List V} {ds : List D} {f : Fp}, All3 (Rp K B 0) vs ds f → f = [] ∧ DqL K B vs ds
  | _, _, _, .nil => ⟨rfl, .nil⟩
  | _, _, _, .cons ⟨rfl, r⟩ t => by
    obtain ⟨rfl, t'⟩ := dqL_all t
    exact ⟨rfl, .cons r t'⟩
/-- .. all frozen -/
theorem frozen {K : PySem.W.Frag} {B : Hp} {r : Nat} {vs : List V} {ds : List D} {f cs : Fp} {H : Hp} (h : All3 (RpG K B r) vs ds f) (o : Ov B (f ++ cs) H) : ∃ B', Le B B' ∧ Ov B' cs H ∧ DqL K B' vs ds := by
  obtain ⟨B', f', l, o', q⟩ := exact_r (r := 0) (h.imp fun _ _ _ ⟨n, h1, h2⟩ => ⟨n, Nat.zero_le _, h2⟩) o
  obtain ⟨e, q'⟩ := dqL_all q
  subst e
  exact ⟨B', l, o', q'⟩
theorem se_tup {es : List Expr} {k r n : Nat} (h : PA X es (tAo X.K Y O a r)) : PE X (.Tuple es k pos) (tD X.K Y O (.tup a) (.own n)) := by
  refine PE.imp (pe_tup h) fun σ H Q ⟨B, ρ, fs, F, S, h⟩ => ⟨B, ρ, fs, F, S, ?_⟩
  simp only [evE] at h
  obtain ⟨h1, h2, h3⟩ := h.bind
  cases e : evL Y.Φ a ρ with
  | stuck => exact absurd e h1
  | exc c i => exact h2 c i e
  | ok ds =>
    intro vs B1 f1 H1 l1 o1 q1
    obtain ⟨B2, l2, o2, q2⟩ := frozen q1 o1
    obtain ⟨hz, g⟩ := (h3 ds e).guard
    have hz' : vs.length ≤ sizeLine := by rw [q2.length]; exact of_decide_eq_true hz
    exact ⟨hz', fun p np => (g.mono (l1.trans l2)).newT o2 np hz' q2⟩
theorem se_lst {es : List Expr} {r : Nat} (h : PA X es (tAo X.K Y O a r)) : PE X (.List es pos) (tD X.K Y O (.lst a) (.own (r + 1))) := by
  refine PE.imp (pe_lst h) fun σ H Q ⟨B, ρ, fs, F, S, h⟩ => ⟨B, ρ, fs, F, S, ?_⟩
  simp only [evE] at h
  obtain ⟨h1, h2, h3⟩ := h.bind
  cases e : evL Y.Φ a ρ with
  | stuck => exact absurd e h1
  | exc c i => exact h2 c i e
  | ok ds =>
    intro vs B1 f1 H1 l1 o1 q1
    obtain ⟨B2, f2, l2, o2, q2⟩ := exact_r q1 o1
    obtain ⟨hz, g⟩ := (h3 ds e).guard
    have hz' : vs.length ≤ sizeLine := by rw [q2.length]; exact of_decide_eq_true hz
    exact ⟨hz', fun p np => g (.ref p) B2 ((p, .lst vs) :: f2) _ (l1.trans l2) (o2.newOwn np _) (.inr (.inl ⟨p, vs, ds, f2, rfl, rfl, rfl, hz', q2⟩))⟩
end
end DL
set_option Elab.async false
set_option linter.all false
set_option maxRecDepth 100000
set_option maxHeartbeats 1000000
namespace DL
open PySem PySem.Spec PyProof.Rows L2
/-- the def at f run on values -/
theorem run_fnG {X : Cx} {n : Nat} {f : Addr} {fd : FuncData} {ps : List Str} {sp : Sp} {E : L2.St → XK} {pins : List (Addr × Obj)} {σ : L2.St} {H : Hp} {s : Shared} {Q : VK} {us : List Value} {vs : List V} (F : FnG X.prog X.w X.K X.mg X.base n f fd ps sp) (hr : Room n X.A) (hgd : X.A.guards = some []) (hb : L2.Binds X.K fd ps [])
    (hx : PassesAt (L2.CX X.prog X.w) X σ (E σ)) (I : Inv X pins σ H s) (r : Vals vs us) (h : sp vs H Q (E σ)) : wpAny (model X.prog X.w) X.A (call (.ref f) us) (EP X pins σ Q) X.xe s := by
  have lus : us.length = ps.length := r.length.symm.trans (F.len _ _ _ _ h)
  have bnd := hb s us I.kIn (by simpa using lus)
  simp only [List.append_nil] at bnd
  refine wpAny_call (codeAny_mono (F.go X.A X.stack s H ⟨us, []⟩ us vs Q (E σ) hr hgd I.env0 bnd r h) fun res st' hq => ?_)
  match res, hq with
  | .error e, hq => exact hx pins H s e st' I hq
  | .ok (.ret u), hq => exact I.after hq
  | .ok .next, hq => exact False.elim hq
  | .ok .brk, hq => exact False.elim hq
  | .ok .cont, hq => exact False.elim hq
section
variable {X : Cx} {x : Str} {p pos : Pos} {e : Expr} {es : List Expr} {t : TA} {n : Nat} {f : Addr} {fd : FuncData} {ps : List Str} {sp : Sp} {E : L2.St → XK}
theorem pe_callG (F : FnG X.prog X.w X.K X.mg X.base n f fd ps sp) (hr : Room n X.A) (hgd : X.A.guards = some []) (hg : Gl X x) (hm : X.mg x = some (.ref f)) (hk : PySem.W.keepIn X.K (.ref f) = true) (hb : L2.Binds X.K fd ps []) (hx : ∀ σ, PassesAt (L2.CX X.prog X.w) X σ (E σ))
    (ha : PA X (e :: es) t) (hdb : (x == ("__debug__" : Str)) = false) (he : starEach (e :: es) X.env = (false, eval e X.env) :: starEach es X.env) (hpl : (backTo pos (starEach es X.env)).any (·.1) = false) :
    PE X (.Call (.Name x p) (e :: es) [] pos) (fun σ H Q => t σ H fun vs H1 => sp vs H1 Q (E σ)) := by
  refine ⟨fun pins s σ H Q I h => wpAny_Call_Name_kw (ld_glob I hg hm (PySem.W.callWith_K (h₀ := X.base) I.ok.mod.kin hk ?_ he hpl) hdb)⟩
  exact thn (ha.run pos pins s σ H _ I h) fun us s1 ⟨vs, H1, I1, r, q⟩ => ⟨I1.kIn, run_fnG F hr hgd hb (hx σ) I1 r q⟩
/-- f(e, ..), f a def that does not know the caller's cells -/
theorem pe_callF (F : FnG X.prog X.w X.K X.mg X.base n f fd ps sp) (hr : Room n X.A) (hgd : X.A.guards = some []) (hg : Gl X x) (hm : X.mg x = some (.ref f)) (hk : PySem.W.keepIn X.K (.ref f) = true) (hb : L2.Binds X.K fd ps []) (hx : ∀ σ, PassesAt (L2.CX X.prog X.w) X σ (E σ))
    (ha : PA X (e :: es) t) (hdb : (x == ("__debug__" : Str)) = false) (he : starEach (e :: es) X.env = (false, eval e X.env) :: starEach es X.env) (hpl : (backTo pos (starEach es X.env)).any (·.1) = false) :
    PE X (.Call (.Name x p) (e :: es) [] pos) (fun σ H Q => t σ H fun vs H1 => ∃ B cs, Ov B cs H1 ∧ sp vs B (fun v B' => Le B B' ∧ ∀ H', Ov B' cs H' → Q v H') (E σ)) := by
  refine ⟨fun pins s σ H Q I h => wpAny_Call_Name_kw (ld_glob I hg hm (PySem.W.callWith_K (h₀ := X.base) I.ok.mod.kin hk ?_ he hpl) hdb)⟩
  refine thn (ha.run pos pins s σ H _ I h) fun us s1 ⟨vs, H1, I1, r, B, cs, o, q⟩ => ⟨I1.kIn, ?_⟩
  refine thn (run_fnG F hr hgd hb (hx σ) (Inv.hide I1 o) r q) fun u s' ⟨v, B', J, rv, l, g⟩ => ?_
  obtain ⟨H', o', J'⟩ := Inv.again I1 o l J
  exact ⟨v, H', J', rv, g H' o'⟩
end
theorem any_off {pos : Pos} {es : List Expr} {env : Env} (h : es.all notStar = true) : (backTo pos (starEach es env)).any (·.1) = false := by
  induction es with
  | nil => simp [starEach, backTo]
  | cons e es ih =>
    simp only [List.all_cons, Bool.and_eq_true] at h
    have q : starEach (e :: es) env = (false, eval e env) :: starEach es env := by
      cases e <;> first | rfl | (simp [notStar] at h)
    rw [q]
    simp only [backTo, List.map_cons, List.any_cons, Bool.false_or]
    exact ih h.2
theorem star_off {e : Expr} {es : List Expr} {env : Env} (h : notStar e = true) : starEach (e :: es) env = (false, eval e env) :: starEach es env := by
  cases e <;> first | rfl | (simp [notStar] at h)
theorem key_mem {c : Fp} {b : Addr} (h : b ∈ c.map (·.1)) : ∃ o, (b, o) ∈ c := by
  obtain ⟨⟨b', w⟩, mm, e⟩ := List.mem_map.mp h
  have e : b' = b := e
  subst e
  exact ⟨w, mm⟩
theorem mem_key {c : Fp} {b : Addr} {o : HO} (h : (b, o) ∈ c) : b ∈ c.map (·.1) := List.mem_map.mpr ⟨_, h, rfl⟩
section
variable {X : Cx} {Y : Wd} {O : List SK} {T : Tx} {rds : Nat → Nat} {N : List Str} {n : Nat} {sc : Scope} {e : Expr} {es : List Expr} {a : C} {pos p : Pos}
theorem se_call {f : Nat} {x : Str} {r : Nat} (G : Good T rds Y N n sc X) (hf : T.fn[f]? = some x) (hg : Gl X x) (hdb : (x == ("__debug__" : Str)) = false) (hs : (e :: es).all notStar = true) (ha : PA X (e :: es) (tAo X.K Y O a r)) :
    PE X (.Call (.Name x p) (e :: es) [] pos) (tD X.K Y O (.call f a) (.own (rds f))) := by
  obtain ⟨fa, fd, ps, hm, hk, hb, F⟩ := G.fns f x hf
  simp only [List.all_cons, Bool.and_eq_true] at hs
  refine PE.imp (pe_callF (E := WE Y.W) F G.room G.gd hg hm hk hb (fun σ => passAt G.tk σ) ha hdb (star_off hs.1) (any_off hs.2)) fun σ H Q ⟨B, ρ, fs, F', S, h⟩ => ⟨B, ρ, fs, F', S, ?_⟩
  simp only [evE] at h
  obtain ⟨h1, h2, h3⟩ := h.bind
  cases q : evL Y.Φ a ρ with
  | stuck => exact absurd q h1
  | exc c i => exact h2 c i q
  | ok ds =>
    intro vs B1 f1 H1 l1 o1 q1
    obtain ⟨B2, l2, o2, q2⟩ := frozen q1 o1
    refine ⟨B2, _, o2, ds, q2, ?_⟩
    have g := (h3 ds q).mono (l1.trans l2)
    cases e2 : Y.Φ f ds with
    | stuck => rw [e2] at g; exact g
    | exc c i =>
      rw [e2] at g
      exact fun C dd v B' l c1 c2 c3 => g C dd v B' l c1 c2 c3
    | ok d =>
      rw [e2] at g
      intro v B3 f3 H3 l3 o3 q3
      refine ⟨l3.trans o3.le, fun H' o' => ?_⟩
      -- H3 = B3 and the new cells f3; H' = H3 and the old cells
      refine g v B3 f3 H' l3 ⟨fun b u m => ?_, fun b hn => ?_, ?_, fun b u m => (List.mem_append.mp m).elim (o3.ck b u) (o'.ck b u)⟩ q3
      · rcases List.mem_append.mp m with m | m
        · exact ⟨o'.le _ _ (o3.own b u m).1, (o3.own b u m).2⟩
        · exact ⟨(o'.own b u m).1, (o3.free (o'.own b u m).2).1⟩
      · rw [o'.frz b fun u m => hn u (List.mem_append_right _ m)]
        exact o3.frz b fun u m => hn u (List.mem_append_left _ m)
      · rw [List.map_append, List.nodup_append]
        refine ⟨o3.nd, o'.nd, fun b m1 c m2 z => ?_⟩
        subst z
        obtain ⟨u, k1⟩ := key_mem m1
        obtain ⟨w, k2⟩ := key_mem m2
        have h1 := (o3.own _ u k1).1
        have h2 := (o'.own _ w k2).2
        rw [h1] at h2; cases h2
/-- .. whose answer is no object: the arguments are only lent -/
theorem dqL_of_BL {K : PySem.W.Frag} {B H : Hp} (l : Le B H) {ks : List (Option OS)} {vs : List V} {ds : List D} (h : BL K B H ks vs ds) : DqL K H vs ds := by
  induction h with
  | nil => exact .nil
  | cons q _ ih => exact .cons (q.dq l) ih
theorem rp_scal {K : PySem.W.Frag} {B : Hp} {n : Nat} {v : V} {d : D} {f : Fp} (s : scalar d = true) (h : Rp K B n v d f) : f = [] ∧ Dq K B v d := by
  cases n with
  | zero => exact h
  | succ n =>
    rcases h with ⟨_, h1, h⟩ | ⟨_, _, _, _, _, e, _⟩ | ⟨_, _, _, _, _, e, _⟩ | ⟨_, _, _, _, _, e, _⟩
    · exact ⟨h1, h⟩
    · subst e; cases s
    · subst e; cases s
    · subst e; cases s
theorem se_callS {f : Nat} {x : Str} {ks : List (Option OS)} (G : Good T rds Y N n sc X) (hf : T.fn[f]? = some x) (hg : Gl X x) (hdb : (x == ("__debug__" : Str)) = false) (hs : (e :: es).all notStar = true) (ha : PA X (e :: es) (tAr X.K Y O a ks)) :
    PE X (.Call (.Name x p) (e :: es) [] pos) (tD X.K Y O (.callS f a) (.own 50)) := by
  obtain ⟨fa, fd, ps, hm, hk, hb, F⟩ := G.fns f x hf
  simp only [List.all_cons, Bool.and_eq_true] at hs
  refine PE.imp (pe_callG (E := WE Y.W) F G.room G.gd hg hm hk hb (fun σ => passAt G.tk σ) ha hdb (star_off hs.1) (any_off hs.2)) fun σ H Q ⟨B, ρ, fs, F', S, h⟩ => ⟨B, ρ, fs, F', S, ?_⟩
  simp only [evE] at h
  obtain ⟨h1, h2, h3⟩ := h.bind
  cases q : evL Y.Φ a ρ with
  | stuck => exact absurd q h1
  | exc c i => exact h2 c i q
  | ok ds =>
    intro vs B1 f1 H1 l1 o1 ⟨e1, q1⟩
    subst e1
    refine ⟨ds, dqL_of_BL o1.le q1, ?_⟩
    obtain ⟨g1, g2, g3⟩ := ((h3 ds q).mono l1).bind
    cases e2 : Y.Φ f ds with
    | stuck => exact absurd e2 g1
    | exc c i => exact fun C dd v B' l c1 c2 c3 => g2 c i e2 C dd v B' (o1.le.trans l) c1 c2 c3
    | ok d =>
      intro v B3 f3 H3 l3 o3 q3
      obtain ⟨hs, g⟩ := (g3 d e2).guard
      obtain ⟨rfl, q4⟩ := rp_scal hs q3
      -- the frozen part: all that is new, without the cells
      have hl : Le H1 H3 := l3.trans o3.le
      refine g v (fun b => if b ∈ ((fs.flatten ++ F')).map (·.1) then none else H3 b) [] H3 (fun b u hu => ?_) ⟨fun b u m => ⟨hl _ _ (o1.own b u m).1, ?_⟩, fun b hn => ?_, o1.nd, o1.ck⟩ (Rp.frz (q4.scal hs) (.inr (leaf_of_scalar hs)))
      · show (if b ∈ ((fs.flatten ++ F')).map (·.1) then none else H3 b) = some u
        rw [if_neg fun m => ?_]
        · exact hl _ _ (o1.le _ _ hu)
        · obtain ⟨w, k1⟩ := key_mem m
          have := (o1.own _ w k1).2
          rw [hu] at this; cases this
      · show (if b ∈ ((fs.flatten ++ F')).map (·.1) then none else H3 b) = none
        exact if_pos (mem_key (show (b, u) ∈ fs.flatten ++ F' from m))
      · show H3 b = (if b ∈ ((fs.flatten ++ F')).map (·.1) then none else H3 b)
        rw [if_neg fun m => ?_]
        obtain ⟨w, k1⟩ := key_mem m
        exact hn w k1
end
end DL
set_option Elab.async false
set_option linter.all false
set_option maxRecDepth 100000
set_option maxHeartbeats 1000000
namespace DL
open PySem PySem.Spec PyProof.Rows L2
section
variable {K : PySem.W.Frag} {B H : Hp}
theorem bools_of {xs : List V} : ∀ {ds : List D} {ns : List Bool}, DqL K B xs ds → boolsD ds = some ns → xs = ns.map V.bl := by
  induction xs with
  | nil =>
    intro ds ns h e
    cases h
    simp only [boolsD, Option.some.injEq] at e; subst e; rfl
  | cons x xs ih =>
    intro ds ns h e
    cases h with
    | @cons _ _ d ds r t =>
      cases d <;> try (simp [boolsD] at e; done)
      rename_i i
      simp only [boolsD] at e
      cases q : boolsD ds with
      | none => rw [q] at e; cases e
      | some ms =>
        rw [q] at e
        have e : i :: ms = ns := by simpa using e
        subst e
        rw [List.map_cons, r.bool_inv, ← ih t q]
end
/-- what a built-in owes -/
def BiR (X : Cx) (Y : Wd) (b : Bi) (ks : List (Option OS)) (κ : OS) (r : List V → Hp → VK → Prop) : Prop :=
  ∀ (σ : L2.St) (B H : Hp) (cs : Fp) (Q : VK) (vs : List V) (ds : List D), Ov B cs H → BL X.K B H ks vs ds → Out X.K Y.cl Y.W σ B cs κ (evBi b ds) Q → r vs H Q
section
variable {X : Cx} {Y : Wd} {O : List SK} {e : Expr} {es : List Expr} {a : C} {pos p : Pos} {κ : OS} {x : Str} {ks : List (Option OS)}
theorem bi_read {b : Bi} {r : List V → Hp → VK → Prop} (hb : BiR X Y b ks κ r) {σ : L2.St} {H : Hp} {Q : VK} (h : tD X.K Y O (.bi b a) κ σ H Q) : tCB r (tAr X.K Y O a ks) σ H Q := by
  obtain ⟨B, ρ, fs, F, S, h⟩ := h
  simp only [evE] at h
  obtain ⟨h1, h2, h3⟩ := h.bind
  refine ⟨B, ρ, fs, F, S, ?_⟩
  cases q : evL Y.Φ a ρ with
  | stuck => exact absurd q h1
  | exc c i => exact h2 c i q
  | ok ds =>
    intro vs B1 f1 H1 l1 o1 ⟨e1, q1⟩
    subst e1
    exact hb σ B1 H1 _ Q vs ds o1 q1 ((h3 ds q).mono l1)
theorem se_biB {b : Bi} {r : List V → Hp → VK → Prop} {id : String} (hc : CallR X (.builtin id) r) (hb : BiR X Y b ks κ r) (hg : Gl X x) (hm : X.mg x = none) (hv : bootBuiltins x = some (.builtin id)) (hn : okName x = true) (hs : (e :: es).all notStar = true) (ha : PA X (e :: es) (tAr X.K Y O a ks)) :
    PE X (.Call (.Name x p) (e :: es) [] pos) (tD X.K Y O (.bi b a) κ) := by
  simp only [okName, Bool.and_eq_true, Bool.not_eq_true', decide_eq_true_eq] at hn
  simp only [List.all_cons, Bool.and_eq_true] at hs
  exact PE.imp (pe_callB hc hg hm hv ha hn.2 hn.1.1 (star_off hs.1) (any_off hs.2)) fun σ H Q h => bi_read hb h
theorem se_biT {b : Bi} {r : List V → Hp → VK → Prop} {id : String} (hc : CallR X (.type id) r) (hb : BiR X Y b ks κ r) (hg : Gl X x) (hm : X.mg x = none) (hv : bootBuiltins x = some (.type id)) (hn : okName x = true) (hs : (e :: es).all notStar = true) (ha : PA X (e :: es) (tAr X.K Y O a ks)) :
    PE X (.Call (.Name x p) (e :: es) [] pos) (tD X.K Y O (.bi b a) κ) := by
  simp only [okName, Bool.and_eq_true, Bool.not_eq_true', decide_eq_true_eq] at hn
  simp only [List.all_cons, Bool.and_eq_true] at hs
  exact PE.imp (pe_callTy hc hg hm hv ha hn.2 hn.1.1 (star_off hs.1) (any_off hs.2)) fun σ H Q h => bi_read hb h
theorem se_biF {b : Bi} {r : List V → Hp → VK → Prop} {id : String} (hc : CallR X (.builtin id) r) (hb : BiR X Y b ks κ r) (hg : Gl X x) (hm : X.mg x = some (.builtin id)) (hn : okName x = true) (hs : (e :: es).all notStar = true) (ha : PA X (e :: es) (tAr X.K Y O a ks)) :
    PE X (.Call (.Name x p) (e :: es) [] pos) (tD X.K Y O (.bi b a) κ) := by
  simp only [okName, Bool.and_eq_true, Bool.not_eq_true', decide_eq_true_eq] at hn
  simp only [List.all_cons, Bool.and_eq_true] at hs
  exact PE.imp (pe_callBfun hc hg hm ha hn.1.1 (star_off hs.1) (any_off hs.2)) fun σ H Q h => bi_read hb h
end
section
variable {X : Cx} {Y : Wd} {ks : List (Option OS)}
theorem BL.one {K : PySem.W.Frag} {B H : Hp} {ks : List (Option OS)} {vs : List V} {d : D} (h : BL K B H ks vs [d]) : ∃ κ v, ks = [some κ] ∧ vs = [v] ∧ Bp K B H (dep κ) v d := by
  cases h with
  | cons q t => cases t; exact ⟨_, _, rfl, rfl, q⟩
theorem BL.two {K : PySem.W.Frag} {B H : Hp} {ks : List (Option OS)} {vs : List V} {d e : D} (h : BL K B H ks vs [d, e]) : ∃ κ κ' v w, ks = [some κ, some κ'] ∧ vs = [v, w] ∧ Bp K B H (dep κ) v d ∧ Bp K B H (dep κ') w e := by
  cases h with
  | cons q t =>
    cases t with
    | cons q' t => cases t; exact ⟨_, _, _, _, rfl, rfl, q, q'⟩
theorem flat_dep {κ : OS} (h : flat1 (some κ) = true) : dep κ ≤ 1 := by
  cases κ with
  | own n => exact Nat.zero_le _
  | bor b => exact of_decide_eq_true h
  | dead => cases h
/-- the last built-in's name and the call that it is -/
inductive BiCall (X : Cx) (Y : Wd) (b : Bi) (ks : List (Option OS)) (κ : OS) : Prop
  | blt (id : String) (r : List V → Hp → VK → Prop) (hc : CallR X (.builtin id) r) (hr : BiR X Y b ks κ r) (hv : bootBuiltins (biName b) = some (.builtin id)) (hn : b ≠ .gcd)
  | typ (id : String) (r : List V → Hp → VK → Prop) (hc : CallR X (.type id) r) (hr : BiR X Y b ks κ r) (hv : bootBuiltins (biName b) = some (.type id)) (hn : b ≠ .gcd)
  | fun_ (r : List V → Hp → VK → Prop) (hc : CallR X (.builtin "math.gcd") r) (hr : BiR X Y b ks κ r) (hb : b = .gcd)
theorem Out.stuck0 {K : PySem.W.Frag} {cl : Str → Option Addr} {W : WX} {σ : L2.St} {B : Hp} {cs : Fp} {κ : OS} {Q : VK} {P : Prop} (h : Out K cl W σ B cs κ .stuck Q) : P := h.elim
theorem bi_all (b : Bi) {κ : OS} (hc : X.calm = true) (hg : X.A.guards = some []) (hu : X.A.units + 200 < cLine) (hk : biK b ks = some κ) : BiCall X Y b ks κ := by
  cases b with
  | len =>
    refine .blt "len" _ call_len_seq (fun σ B H cs Q vs ds ov hl h => ?_) PySem.boot_len (by decide)
    cases ds with
    | nil => exact h.stuck0
    | cons d ds =>
      cases ds with
      | cons => cases d <;> exact h.stuck0
      | nil =>
        obtain ⟨κ', v, e1, e2, q⟩ := hl.one
        subst e1 e2
        simp only [biK] at hk
        have hk' : κ = .own 50 := by
          split at hk
          · cases hk; rfl
          · cases hk
        subst hk'
        cases d <;> try (exact h.stuck0)
        · simp only [evBi] at h
          obtain ⟨a, xs, e1, h1, _, r1⟩ := q.list_inv ov.le
          refine ⟨a, xs, by rw [e1], .inl (.of h1), ?_⟩
          rw [Paired.len r1]
          exact h.leaf ov (.int _) rfl
        · simp only [evBi] at h
          obtain ⟨a, xs, e1, h1, hz, r1⟩ := Dq.tuple_inv (q.leaf rfl)
          refine ⟨a, xs, by rw [e1], .inr (ov.le.sqt h1), ?_⟩
          rw [r1.length]
          exact h.leaf ov (.int _) rfl
        · rename_i kvs
          simp only [evBi] at h
          cases er : rdOf kvs with
          | none => rw [er] at h; exact h.stuck0
          | some xs =>
            rw [er] at h
            obtain ⟨a, ys, e1, h1, r1⟩ := q.rd_inv er
            refine ⟨a, ys, by rw [e1], .inl (ov.le.sql h1), ?_⟩
            rw [r1.length]
            exact h.leaf ov (.int _) rfl
  | abs =>
    refine .blt "abs" _ call_abs (fun σ B H cs Q vs ds ov hl h => ?_) (by decide +kernel) (by decide)
    cases ds with
    | nil => exact h.stuck0
    | cons d ds =>
      cases ds with
      | cons => cases d <;> exact h.stuck0
      | nil =>
        obtain ⟨κ', v, e1, e2, q⟩ := hl.one
        subst e1 e2
        simp only [biK] at hk
        have hk' : κ = .own 50 := by
          split at hk
          · cases hk; rfl
          · cases hk
        subst hk'
        cases d <;> try (exact h.stuck0)
        simp only [evBi] at h
        exact ⟨_, by rw [q.int_inv], h.leaf ov (.int _) rfl⟩
  | int =>
    refine .typ "int" _ call_int1 (fun σ B H cs Q vs ds ov hl h => ?_) (by decide +kernel) (by decide)
    cases ds with
    | nil => exact h.stuck0
    | cons d ds =>
      cases ds with
      | cons => cases d <;> exact h.stuck0
      | nil =>
        obtain ⟨κ', v, e1, e2, q⟩ := hl.one
        subst e1 e2
        simp only [biK] at hk
        have hk' : κ = .own 50 := by
          split at hk
          · cases hk; rfl
          · cases hk
        subst hk'
        cases d <;> try (exact h.stuck0)
        · simp only [evBi] at h
          exact .inr ⟨_, by rw [(q.leaf rfl).bool_inv], h.leaf ov (.int _) rfl⟩
        · simp only [evBi] at h
          exact .inl ⟨_, by rw [q.int_inv], h.leaf ov (.int _) rfl⟩
  | min2 =>
    refine .blt "min" _ (call_min2 hc) (fun σ B H cs Q vs ds ov hl h => ?_) (by decide +kernel) (by decide)
    simp only [biK] at hk
    have hk' : κ = .own 50 := by
      split at hk
      · cases hk; rfl
      · cases hk
    subst hk'
    rcases ds with _ | ⟨d, _ | ⟨e, _ | ⟨f, ds⟩⟩⟩
    · exact h.stuck0
    · cases d <;> exact h.stuck0
    · obtain ⟨κ1, κ2, v, w, e1, e2, q1, q2⟩ := hl.two
      subst e2
      cases d <;> cases e <;> try (exact h.stuck0)
      simp only [evBi] at h
      exact ⟨_, _, by rw [q1.int_inv, q2.int_inv], h.leaf ov (.int _) rfl⟩
    · cases d <;> cases e <;> exact h.stuck0
  | all =>
    refine .blt "all" _ (cr_all hc) (fun σ B H cs Q vs ds ov hl h => ?_) (by decide +kernel) (by decide)
    simp only [biK] at hk
    have hk' : κ = .own 50 := by
      split at hk
      · cases hk; rfl
      · cases hk
    subst hk'
    rcases ds with _ | ⟨d, _ | ⟨e, ds⟩⟩
    · exact h.stuck0
    · obtain ⟨κ', v, e1, e2, q⟩ := hl.one
      subst e1 e2
      cases d <;> try (exact h.stuck0)
      rename_i ds
      simp only [evBi] at h
      cases ei : boolsD ds with
      | none => rw [ei] at h; exact h.stuck0
      | some ns =>
        rw [ei] at h
        obtain ⟨a, xs, e1, h1, hz1, r1⟩ := Dq.list_inv (q.dq ov.le)
        have e3 := bools_of r1 ei
        subst e3
        exact ⟨a, ns, by rw [e1], .of h1, h.leaf ov (.bl _) rfl⟩
    · cases d <;> exact h.stuck0
  | gcd =>
    refine .fun_ _ cr_gcd (fun σ B H cs Q vs ds ov hl h => ?_) rfl
    simp only [biK] at hk
    have hk' : κ = .own 50 := by
      split at hk
      · cases hk; rfl
      · cases hk
    subst hk'
    rcases ds with _ | ⟨d, _ | ⟨e, _ | ⟨f, ds⟩⟩⟩
    · exact h.stuck0
    · cases d <;> exact h.stuck0
    · obtain ⟨κ1, κ2, v, w, e1, e2, q1, q2⟩ := hl.two
      subst e2
      cases d <;> cases e <;> try (exact h.stuck0)
      simp only [evBi] at h
      exact ⟨_, _, by rw [q1.int_inv, q2.int_inv], h.leaf ov (.int _) rfl⟩
    · cases d <;> cases e <;> exact h.stuck0
end
end DL
set_option Elab.async false
set_option linter.all false
set_option maxRecDepth 100000
set_option maxHeartbeats 1000000
namespace DL
open PySem PySem.Spec PyProof.Rows L2
/-- the iterator yields ds -/
def IsIt (K : PySem.W.Frag) (κ : OS) (J : It) (ds : List D) (B : Hp) (cs : Fp) : Prop :=
  ∀ B' cs' H', Le B B' → (∀ p ∈ cs, p ∈ cs') → Ov B' cs' H' →
    J.stop ds.length H' ∧ ∀ i d, ds[i]? = some d → J.go i H' ∧ ∀ x H'', J.yld i H' x H'' → ∃ B'', Le B' B'' ∧ Ov B'' cs' H'' ∧ Bp K B'' H'' (dep κ) x d
def OutI (Z : List D → Prop) (E : Str → D → Prop) (r : R (List D)) : Prop := match r with
  | .ok ds => Z ds
  | .exc k i => E k i
  | .stuck => False
theorem OutI.bind {α : Type} {Z : List D → Prop} {E : Str → D → Prop} {r : R α} {f : α → R (List D)} (h : OutI Z E (r.bind f)) : r ≠ .stuck ∧ (∀ c i, r = .exc c i → E c i) ∧ ∀ d, r = .ok d → OutI Z E (f d) := by
  cases r with
  | ok d => exact ⟨(fun q => nomatch q), (fun _ _ q => nomatch q), fun d' q => by cases q; exact h⟩
  | exc c i => exact ⟨(fun q => nomatch q), (fun c' i' q => by cases q; exact h), (fun _ q => nomatch q)⟩
  | stuck => exact h.elim
theorem OutI.guard {Z : List D → Prop} {E : Str → D → Prop} {b : Bool} {r : R (List D)} (h : OutI Z E (DL.guard b r)) : b = true ∧ OutI Z E r := by
  cases b with
  | true => exact ⟨rfl, h⟩
  | false => exact h.elim
def tI (K : PySem.W.Frag) (Y : Wd) (O : List SK) (c : C) (κ : OS) (fr : Bool) : TI := fun σ H R => ∃ B ρ fs F, Sta K B O ρ σ fs F H ∧ OutI (fun ds => ds.length ≤ sizeLine → ∀ J B' H', Le B B' → Ov B' (fs.flatten ++ F) H' → IsIt K κ J ds B' (if fr then [] else fs.flatten ++ F) → R J H')
    (fun k i => Exc K Y.cl Y.W σ B k i) (evI Y.Φ c ρ)
theorem PI.imp {X : Cx} {tg e : Expr} {t t' : TI} (h : PI X tg e t) (f : ∀ σ H Q, t' σ H Q → t σ H Q) : PI X tg e t' := ⟨fun pins s σ H Q I q => h.run pins s σ H Q I (f σ H Q q)⟩
theorem Le.ov {B B' H H' : Hp} {cs cs' : Fp} (l : Le B B') (s : ∀ p ∈ cs, p ∈ cs') (o : Ov B cs H) (o' : Ov B' cs' H') : Le H H' := fun a u q => by
  by_cases m : ∃ w, (a, w) ∈ cs
  · obtain ⟨w, m⟩ := m
    rw [(o.own a w m).1] at q; cases q
    exact (o'.own a u (s _ m)).1
  · rw [o.frz a fun w z => m ⟨w, z⟩] at q
    exact o'.le a u (l a u q)
section
variable {X : Cx} {Y : Wd} {O : List SK} {e ea eb tg : Expr} {a b : C} {κ κa κb : OS} {pos p : Pos}
theorem dep_itK {κ : OS} : dep (itK κ) = dep κ - 1 := by
  cases κ with
  | own n => rfl
  | bor b =>
    simp only [itK]
    split
    · simp only [dep]; omega
    · rfl
  | dead => rfl
/-- one value, then the walk -/
theorem it_one {σ : L2.St} {H : Hp} {R1 : VK} {B : Hp} {ρ : En} {fs : List Fp} {F : Fp} {f : D → R (List D)} {Z : List D → Prop} (S : Sta X.K B O ρ σ fs F H) (h : OutI Z (fun k i => Exc X.K Y.cl Y.W σ B k i) ((evE Y.Φ a ρ).bind f))
    (g : ∀ d v B1 H1, OutI Z (fun k i => Exc X.K Y.cl Y.W σ B k i) (f d) → Le B B1 → Ov B1 (fs.flatten ++ F) H1 → Bp X.K B1 H1 (dep κa) v d → R1 v H1) : tD X.K Y O a κa σ H R1 := by
  obtain ⟨h1, h2, h3⟩ := h.bind
  exact ⟨B, ρ, fs, F, S, Out.opnd h1 h2 fun d ed v B1 H1 l1 o1 q1 => g d v B1 H1 (h3 d ed) l1 o1 q1⟩
theorem list_isIt {K : PySem.W.Frag} {B H : Hp} {cs : Fp} {κ : OS} {p : Addr} {xs : List V} {ds : List D} (hp : H p = some (.lst xs)) (o : Ov B cs H) (r : Paired (Bp K B H (dep κ - 1)) xs ds) : IsIt K (itK κ) (Itl K p) ds B cs := by
  intro B' cs' H' l s o'
  have lH := Le.ov l s o o'
  have sq : SqL K H' p xs := .of (lH _ _ hp)
  refine ⟨⟨xs, sq, by rw [Paired.len r]; exact Nat.le_refl _⟩, fun i d hd => ?_⟩
  obtain ⟨x, h1, h2⟩ := Paired.get' r hd
  refine ⟨⟨xs, x, sq, h1⟩, fun y H'' hy => ?_⟩
  obtain ⟨rfl, hy⟩ := hy
  have := hy xs sq
  rw [h1] at this; cases this
  exact ⟨B', Le.refl _, o', by rw [dep_itK]; exact h2.le l lH⟩
theorem list_isIt0 {K : PySem.W.Frag} {B : Hp} {κ : OS} {p : Addr} {xs : List V} {ds : List D} (hp : B p = some (.lst xs)) (r : DqL K B xs ds) (hκ : dep κ = 0) : IsIt K κ (Itl K p) ds B [] := by
  intro B' cs' H' l s o'
  have sq : SqL K H' p xs := .of (o'.le _ _ (l _ _ hp))
  refine ⟨⟨xs, sq, by rw [r.length]; exact Nat.le_refl _⟩, fun i d hd => ?_⟩
  obtain ⟨x, h1, h2⟩ := r.get hd
  refine ⟨⟨xs, x, sq, h1⟩, fun y H'' hy => ?_⟩
  obtain ⟨rfl, hy⟩ := hy
  have := hy xs sq
  rw [h1] at this; cases this
  exact ⟨B', Le.refl _, o', by rw [hκ]; exact h2.le l⟩
theorem si_itv (hκ : κa ≠ .dead) (ha : PE X ea (tD X.K Y O a κa)) : PI X tg ea (tI X.K Y O (.itv a) (itK κa) (isOwn (some κa))) := by
  refine PI.imp (pi_list ha) fun σ H R ⟨B, ρ, fs, F, S, h⟩ => ?_
  simp only [evI] at h
  refine it_one S h fun d v B1 H1 hz l1 o1 q1 => ?_
  cases d <;> try (exact hz.elim)
  obtain ⟨p, xs, e1, h1, z1, r1⟩ := q1.list_inv o1.le
  refine ⟨p, e1, ⟨xs, .of h1⟩, hz (by rw [← Paired.len r1]; exact z1) _ B1 H1 l1 o1 ?_⟩
  cases κa with
  | own n =>
    obtain ⟨p', xs', e2, h2, z2, r2⟩ := Dq.list_inv q1
    rw [e1] at e2; cases e2
    exact list_isIt0 h2 (by
      have := o1.le _ _ h2
      rw [h1] at this; cases this
      exact r2) rfl
  | bor k => exact list_isIt h1 o1 r1
  | dead => exact absurd rfl hκ
theorem ups_get {n : Nat} {lo : Int} {i : Nat} {d : D} (h : (ups n lo)[i]? = some d) : i < n ∧ d = .int (lo + (i : Nat)) := by
  unfold ups at h
  rw [List.getElem?_map] at h
  cases q : (List.range n)[i]? with
  | none => rw [q] at h; cases h
  | some k =>
    rw [q] at h
    have hi : i < n := by
      have := (List.getElem?_eq_some_iff.mp q).1
      simpa using this
    rw [List.getElem?_range hi] at q
    cases q
    cases h
    exact ⟨hi, rfl⟩
theorem ups_len (n : Nat) (lo : Int) : (ups n lo).length = n := by simp [ups]
theorem range_isIt {K : PySem.W.Frag} {B : Hp} {cs : Fp} {n : Nat} {lo : Int} {κ : OS} (hκ : dep κ = 0) : IsIt K κ (Itr lo n) (ups n lo) B cs := by
  intro B' cs' H' l s o'
  rw [ups_len]
  refine ⟨Nat.le_refl _, fun i d hd => ?_⟩
  obtain ⟨hi, rfl⟩ := ups_get hd
  refine ⟨hi, fun y H'' hy => ?_⟩
  obtain ⟨rfl, rfl⟩ := hy
  exact ⟨B', Le.refl _, o', by rw [hκ]; exact .int _⟩
theorem si_rng1 {κ : OS} (hκ : dep κ = 0) (hg : Gl X "range") (hm : X.mg "range" = none) (hs : notStar ea = true) (ha : PE X ea (tD X.K Y O a κa)) : PI X tg (.Call (.Name "range" p) [ea] [] pos) (tI X.K Y O (.rng1 a) κ true) := by
  refine PI.imp (pi_range1 hg hm (pa_cons ha pa_nil (star_off hs)) (star_off hs)) fun σ H R ⟨B, ρ, fs, F, S, h⟩ => ?_
  show tD X.K Y O a κa σ H fun v H1 => _
  simp only [evI] at h
  refine it_one S h fun d v B1 H1 hz l1 o1 q1 => ?_
  cases d <;> try (exact hz.elim)
  rename_i j
  obtain ⟨c, hz⟩ := OutI.guard hz
  simp only [Bool.and_eq_true, decide_eq_true_eq, sz] at c
  have hl : j.toNat ≤ 16777216 := by have := c.2; rw [sizeLine_eq] at this; exact this
  exact ⟨j, by rw [q1.int_inv], c.1, by omega, hz (by rw [ups_len]; exact c.2) _ B1 H1 l1 o1 (range_isIt hκ)⟩
theorem enmD_get : ∀ {ds : List D} {k i : Nat} {d : D}, (enmD k ds)[i]? = some d → ∃ x, ds[i]? = some x ∧ d = .tuple [.int ((k + i : Nat) : Int), x]
  | [], k, i, d, h => by simp [enmD] at h
  | a :: ds, k, 0, d, h => by simp [enmD] at h; exact ⟨a, rfl, by rw [← h]; rfl⟩
  | a :: ds, k, i + 1, d, h => by
    obtain ⟨x, h1, h2⟩ := enmD_get (ds := ds) (k := k + 1) (i := i) (d := d) (by simpa [enmD] using h)
    exact ⟨x, by simpa using h1, by rw [h2, show k + 1 + i = k + (i + 1) from by omega]⟩
theorem enmD_len : ∀ (ds : List D) (k : Nat), (enmD k ds).length = ds.length
  | [], _ => rfl
  | _ :: ds, k => congrArg (· + 1) (enmD_len ds (k + 1))
/-- two-place tuples, made on the way -/
theorem tup2 {K : PySem.W.Frag} {B H : Hp} {cs : Fp} {T : Addr} {x y : V} {d e : D} (o : Ov B cs H) (n : H T = none) (h1 : Dq K B x d) (h2 : Dq K B y e) : ∃ B', Le B B' ∧ Ov B' cs (upd H T (.tup [x, y])) ∧ Dq K B' (.ref T) (.tuple [d, e]) := by
  have l := le_new (o.free n).1 (.tup [x, y])
  exact ⟨_, l, o.new n _, .tup (.of upd_same) (by show 2 ≤ sizeLine; decide) (.cons (h1.le l) (.cons (h2.le l) .nil))⟩
/-- a list lent: it stands, and its items are frozen -/
structure Lent (K : PySem.W.Frag) (B : Hp) (cs : Fp) (p : Addr) (xs : List V) (ds : List D) : Prop where
  at_ : ∀ B' cs' H', Le B B' → (∀ q ∈ cs, q ∈ cs') → Ov B' cs' H' → H' p = some (.lst xs)
  it : DqL K B xs ds
theorem lent_of {K : PySem.W.Frag} {B H : Hp} {cs : Fp} {v : V} {ds : List D} (o : Ov B cs H) (hf : flat1 (some κ) = true) (q : Bp K B H (dep κ) v (.list ds)) : ∃ p xs, v = .ref p ∧ H p = some (.lst xs) ∧ xs.length ≤ sizeLine ∧ Lent K B (if isOwn (some κ) then [] else cs) p xs ds := by
  obtain ⟨p, xs, e1, h1, z1, r1⟩ := q.flat_inv o.le (flat_dep hf)
  refine ⟨p, xs, e1, h1, z1, fun B' cs' H' l s o' => ?_, r1⟩
  cases κ with
  | own n =>
    obtain ⟨p', xs', e2, h2, z2, r2⟩ := Dq.list_inv (show Dq K B v (.list ds) from q)
    rw [e1] at e2; cases e2
    have := o.le _ _ h2
    rw [h1] at this; cases this
    exact o'.le _ _ (l _ _ h2)
  | bor k => exact Le.ov l s o o' _ _ h1
  | dead => cases hf
theorem si_enm {κ : OS} {elts : List Expr} {kk : Nat} {tpos : Pos} (hκ : dep κ = 0) (hf : flat1 (some κa) = true) (hg : Gl X "enumerate") (hm : X.mg "enumerate" = none) (hs : notStar ea = true) (ha : PE X ea (tD X.K Y O a κa)) :
    PI X (.Tuple elts kk tpos) (.Call (.Name "enumerate" p) [ea] [] pos) (tI X.K Y O (.enm a) κ (isOwn (some κa))) := by
  refine PI.imp (pi_enum hg hm (pa_cons ha pa_nil (star_off hs)) (star_off hs)) fun σ H R ⟨B, ρ, fs, F, S, h⟩ => ?_
  show tD X.K Y O a κa σ H fun v H1 => _
  simp only [evI] at h
  refine it_one S h fun d v B1 H1 hz l1 o1 q1 => ?_
  cases d <;> try (exact hz.elim)
  obtain ⟨q, xs, e1, h1, z1, L⟩ := lent_of o1 hf q1
  refine ⟨q, xs, by rw [e1], .of h1, hz (by rw [enmD_len, ← L.it.length]; exact z1) _ B1 H1 l1 o1 ?_⟩
  intro B' cs' H' l s o'
  have sq : SqL X.K H' q xs := .of (L.at_ B' cs' H' l s o')
  refine ⟨⟨xs, sq, by rw [enmD_len, L.it.length]; exact Nat.le_refl _⟩, fun i d hd => ?_⟩
  obtain ⟨dx, g1, rfl⟩ := enmD_get hd
  obtain ⟨x, g2, g3⟩ := L.it.get g1
  refine ⟨⟨xs, x, sq, g2⟩, fun y H'' hy => ?_⟩
  obtain ⟨T, x', rfl, hT, rfl, hy⟩ := hy
  have := hy xs sq
  rw [g2] at this; cases this
  obtain ⟨B2, l2, o2, q2⟩ := tup2 o' hT (.int (i : Nat)) (g3.le l)
  refine ⟨B2, l2, o2, ?_⟩
  rw [hκ, Nat.zero_add]
  exact q2
end
end DL
set_option Elab.async false
set_option linter.all false
set_option maxRecDepth 100000
set_option maxHeartbeats 1000000
namespace DL
open PySem PySem.Spec PyProof.Rows L2
/-- the cells behind a target -/
def fsT : Tg → Fp → List Fp → List Fp
  | .nm i, f, fs => fs.set i f
  | .tp ts, _, fs => fsT ts [] fs
  | .nil, _, fs => fs
  | .cons t ts, f, fs => fsT ts [] (fsT t f fs)
def OutE (Z : En → Prop) (r : R En) : Prop := match r with
  | .ok ρ => Z ρ
  | _ => False
/-- what a target owes: the new names, on the same heap -/
def tTg (K : PySem.W.Frag) (O : List SK) (t : Tg) (κ : OS) : TG := fun v σ H Q => ∃ B ρ fs F f d, Sta K B O ρ σ fs (f ++ F) H ∧ Rs K B H κ v d f ∧
  OutE (fun ρ' => ∀ B' σ', Le B B' → Sta K B' (kT t κ O) ρ' σ' (fsT t f fs) F H → (∀ vs, (∀ i ∈ slT t, i ∈ vs) → wipe σ' vs = wipe σ vs) → Q σ' H) (bindT t d ρ)
def tTs (K : PySem.W.Frag) (O : List SK) (t : Tg) : TGs := fun vs σ H Q => ∃ B ρ fs F ds, Sta K B O ρ σ fs F H ∧ DqL K B vs ds ∧
  OutE (fun ρ' => ∀ B' σ', Le B B' → Sta K B' (kT t (.own 0) O) ρ' σ' (fsT t [] fs) F H → (∀ vs, (∀ i ∈ slT t, i ∈ vs) → wipe σ' vs = wipe σ vs) → Q σ' H) (bindTs t ds ρ)
theorem PG.imp {X : Cx} {e : Expr} {t t' : TG} (h : PG X e t) (f : ∀ v σ H Q, t' v σ H Q → t v σ H Q) : PG X e t' := ⟨fun pins s σ H v u Q I r q => h.run pins s σ H v u Q I r (f v σ H Q q)⟩
theorem PGs.imp {X : Cx} {e : List Expr} {t t' : TGs} (h : PGs X e t) (f : ∀ v σ H Q, t' v σ H Q → t v σ H Q) : PGs X e t' := ⟨fun pins s σ H v u Q I r q => h.run pins s σ H v u Q I r (f v σ H Q q)⟩
theorem wipe_set {σ : L2.St} {i : Nat} {x : Option V} : ∀ {vs : List Nat}, i ∈ vs → wipe (σ.set i x) vs = wipe σ vs
  | [], h => nomatch h
  | v :: vs, h => by
    unfold wipe
    by_cases e : i = v
    · subst e
      have key : ∀ ws : List Nat, (wipe (σ.set i x) ws).set i none = (wipe σ ws).set i none := by
        intro ws
        induction ws with
        | nil => show (σ.set i x).set i none = σ.set i none; rw [List.set_set]
        | cons w ws ih =>
          show ((wipe (σ.set i x) ws).set w none).set i none = ((wipe σ ws).set w none).set i none
          by_cases e : w = i
          · subst e; rw [List.set_set, List.set_set]; exact ih
          · rw [List.set_comm _ _ e, List.set_comm _ _ e, ih]
      exact key vs
    · rw [wipe_set (vs := vs) (by
        rcases List.mem_cons.mp h with h | h
        · exact absurd h e
        · exact h)]
section
variable {K : PySem.W.Frag} {B H : Hp} {O : List SK} {ρ : En} {σ : L2.St} {fs : List Fp} {F : Fp}
theorem unl_lent {i j b o : Nat} (h : (unlO i O)[j]? = some (.lent b o)) : O[j]? = some (.lent b o) ∧ o ≠ i := by
  unfold unlO at h
  rw [List.getElem?_map] at h
  cases e : O[j]? with
  | none => rw [e] at h; cases h
  | some k =>
    rw [e] at h
    cases k with
    | e κ => cases h
    | lent b' o' =>
      have h1 : unl i (.lent b' o') = .lent b o := Option.some.inj h
      by_cases ne : o' = i
      · have h2 : unl i (.lent b' o') = .e .dead := by show (if o' = i then SK.e .dead else .lent b' o') = _; rw [if_pos ne]
        rw [h2] at h1; cases h1
      · have h2 : unl i (.lent b' o') = .lent b' o' := by show (if o' = i then SK.e .dead else .lent b' o') = _; rw [if_neg ne]
        rw [h2] at h1; cases h1; exact ⟨rfl, ne⟩
theorem Slot.unl {i : Nat} {o : SK} {r : Option D} {s : Option V} {f : Fp} (h : Slot K B H o r s f) : Slot K B H (DL.unl i o) r s f := by
  cases o with
  | e κ => exact h
  | lent b p =>
    cases r with
    | none => exact h
    | some d =>
      show Slot K B H (if p = i then .e .dead else .lent b p) _ _ _
      split
      · exact h
      · exact h
theorem Slots.unl {i : Nat} (h : Slots K B H O ρ σ fs) : Slots K B H (unlO i O) ρ σ fs := by
  induction h with
  | nil => exact .nil
  | cons r _ ih => exact .cons r.unl ih
theorem unlO_len {i : Nat} : (unlO i O).length = O.length := by unfold unlO; rw [List.length_map]
theorem Lents.put {i : Nat} {κ : OS} {r : Option D} {s : Option V} {f : Fp} (h : Lents K B O ρ σ fs) : Lents K B ((unlO i O).set i (.e κ)) (ρ.set i r) (σ.set i s) (fs.set i f) := by
  intro j b o ho d hd
  by_cases e : i = j
  · subst e
    rw [List.getElem?_set, if_pos rfl] at ho
    split at ho <;> cases ho
  · rw [List.getElem?_set, if_neg e] at ho hd
    obtain ⟨h1, h2⟩ := unl_lent ho
    obtain ⟨v, g, g1, g2, g3⟩ := h j b o h1 d hd
    exact ⟨v, g, by rw [List.getElem?_set, if_neg e]; exact g1, by rw [List.getElem?_set, if_neg fun z => h2 z.symm]; exact g2, g3⟩
theorem Lents.unl {i : Nat} (h : Lents K B O ρ σ fs) : Lents K B (unlO i O) ρ σ fs := fun j b o ho d hd => h j b o (unl_lent ho).1 d hd
/-- a slot is given a value -/
theorem Sta.put {i : Nat} {κ : OS} {v : V} {d : D} {f : Fp} (S : Sta K B O ρ σ fs (f ++ F) H) (h : Rs K B H κ v d f) : ∃ B', Le B B' ∧ Sta K B' ((unlO i O).set i (.e κ)) (ρ.set i (some d)) (σ.set i (some v)) (fs.set i f) F H := by
  obtain ⟨lr, ls, lf⟩ := S.sl.len
  by_cases hi : i < O.length
  · obtain ⟨o, r, s, g, _, _, _, hg, _, hset⟩ := (S.sl.unl (i := i)).at (by rw [unlO_len]; exact hi)
    obtain ⟨f1, hp, hp'⟩ := flat_at hg
    -- the old cells of the slot are frozen
    have o1 : Ov B (g ++ (f1 ++ (f ++ F))) H := S.ov.perm (by
      refine (List.Perm.append_right _ hp).trans ?_
      rw [List.append_assoc])
    obtain ⟨B', l, _, o2⟩ := o1.absorb
    have slot : Slot K B' H (.e κ) (some d) (some v) f := by
      cases κ with
      | own n => exact ⟨v, rfl, Rp.le l (show Rp K B n v d f from h)⟩
      | bor b => exact ⟨h.1, v, rfl, Bp.le l (Le.refl H) h.2⟩
      | dead => exact h.elim
    refine ⟨B', l, ⟨o2.perm ?_, hset B' H l (Le.refl H) (.e κ) (some d) (some v) f slot, (S.ln.mono l).put⟩⟩
    refine List.Perm.trans ?_ (List.Perm.append_right _ (hp' f).symm)
    rw [← List.append_assoc]
    exact List.Perm.append_right _ List.perm_append_comm
  · have e1 : (unlO i O).set i (.e κ) = unlO i O := List.set_eq_of_length_le (by rw [unlO_len]; omega)
    have e2 : ρ.set i (some d) = ρ := List.set_eq_of_length_le (by omega)
    have e3 : σ.set i (some v) = σ := List.set_eq_of_length_le (by omega)
    have e4 : fs.set i f = fs := List.set_eq_of_length_le (by omega)
    rw [e1, e2, e3, e4]
    have o1 : Ov B (f ++ (fs.flatten ++ F)) H := S.ov.perm (by
      rw [← List.append_assoc, ← List.append_assoc]
      exact List.Perm.append_right _ List.perm_append_comm)
    obtain ⟨B', l, _, o2⟩ := o1.absorb
    exact ⟨B', l, ⟨o2, (S.sl.mono l (Le.refl H)).unl, (S.ln.mono l).unl⟩⟩
def wipeF (fs : List Fp) : List Nat → List Fp
  | [] => fs
  | v :: vs => (wipeF fs vs).set v []
/-- slots are forgotten: what they own goes to the frame -/
theorem Slots.wipe (h : Slots K B H O ρ σ fs) : ∀ (vs : List Nat), ∃ g, Slots K B H (wipeO O vs) (wipeD ρ vs) (L2.wipe σ vs) (wipeF fs vs) ∧ fs.flatten.Perm ((wipeF fs vs).flatten ++ g)
  | [] => ⟨[], h, by rw [List.append_nil]; exact List.Perm.refl _⟩
  | v :: vs => by
    obtain ⟨g1, h1, p1⟩ := Slots.wipe h vs
    show ∃ g, Slots K B H ((unlO v (wipeO O vs)).set v (.e .dead)) ((wipeD ρ vs).set v none) ((L2.wipe σ vs).set v none) ((wipeF fs vs).set v []) ∧ fs.flatten.Perm (((wipeF fs vs).set v []).flatten ++ g)
    obtain ⟨lr, ls, lf⟩ := h1.len
    by_cases hi : v < (wipeO O vs).length
    · obtain ⟨o, r, s, f, _, _, _, hf, _, hset⟩ := (h1.unl (i := v)).at (by rw [unlO_len]; exact hi)
      obtain ⟨f1, hp, hp'⟩ := flat_at hf
      refine ⟨f ++ g1, hset B H (Le.refl _) (Le.refl _) (.e .dead) none none [] rfl, p1.trans ?_⟩
      have z : ((wipeF fs vs).set v []).flatten.Perm f1 := by simpa using hp' []
      refine (List.Perm.append_right _ hp).trans ?_
      rw [← List.append_assoc]
      exact List.Perm.append_right _ (List.perm_append_comm.trans (List.Perm.append_right _ z.symm))
    · have e1 : (unlO v (wipeO O vs)).set v (.e .dead) = unlO v (wipeO O vs) := List.set_eq_of_length_le (by rw [unlO_len]; omega)
      have e2 : (wipeD ρ vs).set v none = wipeD ρ vs := List.set_eq_of_length_le (by omega)
      have e3 : (L2.wipe σ vs).set v none = L2.wipe σ vs := List.set_eq_of_length_le (by omega)
      have e4 : (wipeF fs vs).set v [] = wipeF fs vs := List.set_eq_of_length_le (by omega)
      rw [e1, e2, e3, e4]
      exact ⟨g1, h1.unl, p1⟩
theorem Lents.wipe (h : Lents K B O ρ σ fs) : ∀ (vs : List Nat), Lents K B (wipeO O vs) (wipeD ρ vs) (L2.wipe σ vs) (wipeF fs vs)
  | [] => h
  | _ :: vs => (Lents.wipe h vs).put
theorem Sta.wipe (S : Sta K B O ρ σ fs F H) (vs : List Nat) : ∃ F', Sta K B (wipeO O vs) (wipeD ρ vs) (L2.wipe σ vs) (wipeF fs vs) F' H ∧ (fs.flatten ++ F).Perm ((wipeF fs vs).flatten ++ F') := by
  obtain ⟨g, h, p⟩ := S.sl.wipe vs
  have pp : (fs.flatten ++ F).Perm ((wipeF fs vs).flatten ++ (g ++ F)) := by
    rw [← List.append_assoc]
    exact List.Perm.append_right _ p
  exact ⟨g ++ F, ⟨S.ov.perm pp, h, S.ln.wipe vs⟩, pp⟩
theorem wipe_get {α : Type} {x : α} {w : List α → List Nat → List α} (w0 : ∀ l, w l [] = l) (w1 : ∀ l v vs, w l (v :: vs) = (w l vs).set v x) (l : List α) : ∀ (vs : List Nat) (i : Nat), (w l vs)[i]? = if i ∈ vs then l[i]?.map (fun _ => x) else l[i]?
  | [], i => by rw [w0]; simp
  | v :: vs, i => by
    have ih := wipe_get w0 w1 l vs
    rw [w1, List.getElem?_set]
    have hlen : (w l vs).length = l.length := by
      have key : ∀ vs, (w l vs).length = l.length := by
        intro vs
        induction vs with
        | nil => rw [w0]
        | cons v vs ih => rw [w1, List.length_set, ih]
      exact key vs
    by_cases e : v = i
    · subst e
      rw [if_pos rfl, hlen]
      by_cases h : v < l.length
      · rw [if_pos h, if_pos List.mem_cons_self, List.getElem?_eq_getElem h]; rfl
      · rw [if_neg h, if_pos List.mem_cons_self, List.getElem?_eq_none (by omega)]; rfl
    · rw [if_neg e, ih i]
      have e' : i ≠ v := fun z => e z.symm
      by_cases h : i ∈ vs
      · rw [if_pos h, if_pos (List.mem_cons_of_mem _ h)]
      · rw [if_neg h, if_neg (by simp [e', h])]
theorem wipe_wipe (σ : L2.St) (vs : List Nat) : L2.wipe (L2.wipe σ vs) vs = L2.wipe σ vs := by
  have g := fun l => wipe_get (x := (none : Option V)) (w := L2.wipe) (fun _ => rfl) (fun _ _ _ => rfl) l vs
  apply List.ext_getElem?
  intro i
  rw [g, g]
  split
  · rw [Option.map_map]; rfl
  · rfl
/-- a target over forgotten slots takes no cells -/
theorem fsT_same : ∀ (t : Tg) {fs : List Fp}, (∀ i ∈ slT t, ∀ f, fs[i]? = some f → f = []) → fsT t [] fs = fs
  | .nm i, fs, h => by
    show fs.set i [] = fs
    apply List.ext_getElem?
    intro j
    rw [List.getElem?_set]
    by_cases e : i = j
    · subst e
      rw [if_pos rfl]
      cases q : fs[i]? with
      | none => rw [if_neg (by rw [List.getElem?_eq_none_iff] at q; omega)]
      | some f =>
        have := h i (by simp [slT]) f q
        subst this
        rw [if_pos (List.getElem?_eq_some_iff.mp q).1]
    · rw [if_neg e]
  | .nil, fs, _ => rfl
  | .tp ts, fs, h => fsT_same ts h
  | .cons t ts, fs, h => by
    show fsT ts [] (fsT t [] fs) = fs
    rw [fsT_same t fun i m => h i (List.mem_append_left _ m)]
    exact fsT_same ts fun i m => h i (List.mem_append_right _ m)
theorem wipeF_nil {vs : List Nat} {i : Nat} {f : Fp} (hi : i ∈ vs) (h : (wipeF fs vs)[i]? = some f) : f = [] := by
  rw [wipe_get (x := ([] : Fp)) (w := wipeF) (fun _ => rfl) (fun _ _ _ => rfl), if_pos hi] at h
  cases q : fs[i]? with
  | none => rw [q] at h; cases h
  | some g => rw [q] at h; cases h; rfl
end
section
variable {X : Cx} {O : List SK} {pos : Pos} {κ : OS}
theorem sg_name {i : Nat} {x : Str} (hN : X.N.Nodup) (hi : X.N[i]? = some x) (hx : Loc X.env.scope x) (hf : X.fn x = true ∨ X.env.scope.names.lookup x = some .local) : PG X (.Name x pos) (tTg X.K O (.nm i) κ) :=
  PG.imp (pg_name hN hi hx hf) fun v σ H Q ⟨B, ρ, fs, F, f, d, S, h, g⟩ => by
    obtain ⟨B', l, S'⟩ := S.put h
    exact g B' _ l S' fun vs hv => wipe_set (hv i (by simp [slT]))
theorem sg_nil : PGs X [] (tTs X.K O .nil) :=
  PGs.imp pgs_nil fun vs σ H Q ⟨B, ρ, fs, F, ds, S, h, g⟩ => by
    cases h with
    | nil => exact ⟨rfl, g B σ (Le.refl _) S fun _ _ => rfl⟩
    | cons r t => exact g.elim
theorem sg_cons {e : Expr} {es : List Expr} {t ts : Tg} (hs : (assignEach (e :: es) X.env).map (·.2) = assign e X.env :: (assignEach es X.env).map (·.2)) (h1 : PG X e (tTg X.K O t (.own 0))) (h2 : PGs X es (tTs X.K (kT t (.own 0) O) ts)) : PGs X (e :: es) (tTs X.K O (.cons t ts)) :=
  PGs.imp (pgs_cons h1 h2 hs) fun vs σ H Q ⟨B, ρ, fs, F, ds, S, h, g⟩ => by
    cases h with
    | nil => exact g.elim
    | @cons v vs d ds r rr =>
      refine ⟨v, vs, rfl, B, ρ, fs, F, [], d, S, ⟨rfl, r⟩, ?_⟩
      have g : OutE _ ((bindT t d ρ).bind fun ρ1 => bindTs ts ds ρ1) := g
      cases e1 : bindT t d ρ with
      | stuck => rw [e1] at g; exact g
      | exc c i => rw [e1] at g; exact g
      | ok ρ1 =>
        rw [e1] at g
        intro B1 σ1 l1 S1 w1
        refine ⟨B1, ρ1, fsT t [] fs, F, ds, S1, rr.le l1, ?_⟩
        have g : OutE _ (bindTs ts ds ρ1) := g
        cases e2 : bindTs ts ds ρ1 with
        | stuck => rw [e2] at g; exact g
        | exc c i => rw [e2] at g; exact g
        | ok ρ2 =>
          rw [e2] at g
          intro B2 σ2 l2 S2 w2
          exact g B2 σ2 (l1.trans l2) S2 fun ws hw => (w2 ws fun i m => hw i (List.mem_append_right _ m)).trans (w1 ws fun i m => hw i (List.mem_append_left _ m))
theorem bindTs_len : ∀ {ts : Tg} {ds : List D} {ρ ρ' : En} {es : List Expr} {N : List Str} {sc : Scope}, bindTs ts ds ρ = .ok ρ' → mTs N sc ts es = true → ds.length = es.length
  | .nil, ds, ρ, ρ', es, N, sc, h, m => by
    cases ds with
    | nil =>
      cases es with
      | nil => rfl
      | cons => simp [mTs] at m
    | cons => simp [bindTs] at h
  | .cons t ts, ds, ρ, ρ', es, N, sc, h, m => by
    cases ds with
    | nil => simp [bindTs] at h
    | cons d ds =>
      cases es with
      | nil => simp [mTs] at m
      | cons e es =>
        simp only [mTs, Bool.and_eq_true] at m
        simp only [bindTs] at h
        cases e1 : bindT t d ρ with
        | ok ρ1 =>
          rw [e1] at h
          exact congrArg (· + 1) (bindTs_len (ts := ts) h m.2)
        | exc c i => rw [e1] at h; cases h
        | stuck => rw [e1] at h; cases h
  | .nm i, ds, ρ, ρ', es, N, sc, h, m => by simp [mTs] at m
  | .tp ts, ds, ρ, ρ', es, N, sc, h, m => by simp [mTs] at m
theorem assignEach_len : ∀ {ts : Tg} {es : List Expr} {N : List Str} {sc : Scope} {env : Env}, mTs N sc ts es = true → (assignEach es env).length = es.length ∧ (assignEach es env).findIdx? (·.1) = none
  | .nil, es, N, sc, env, m => by
    cases es with
    | nil => exact ⟨rfl, rfl⟩
    | cons => simp [mTs] at m
  | .cons t ts, es, N, sc, env, m => by
    cases es with
    | nil => simp [mTs] at m
    | cons e es =>
      simp only [mTs, Bool.and_eq_true] at m
      obtain ⟨h1, h2⟩ := assignEach_len (ts := ts) (env := env) m.2
      have q : assignEach (e :: es) env = (false, assign e env) :: assignEach es env := by
        cases e <;> first | rfl | (cases t <;> simp [mT] at m)
      rw [q]
      refine ⟨congrArg (· + 1) h1, ?_⟩
      rw [List.findIdx?_cons]
      simp [h2]
  | .nm i, es, N, sc, env, m => by simp [mTs] at m
  | .tp ts, es, N, sc, env, m => by simp [mTs] at m
theorem rs_tuple {K : PySem.W.Frag} {B H : Hp} {κ : OS} {v : V} {ds : List D} {f : Fp} (h : Rs K B H κ v (.tuple ds) f) : f = [] ∧ Dq K B v (.tuple ds) := by
  cases κ with
  | own n =>
    cases n with
    | zero => exact h
    | succ n =>
      rcases (h : Rp K B (n + 1) v (.tuple ds) f) with ⟨_, h1, h2⟩ | ⟨_, _, _, _, _, e, _⟩ | ⟨_, _, _, _, _, e, _⟩ | ⟨_, _, _, _, _, e, _⟩
      · exact ⟨h1, h2⟩
      · cases e
      · cases e
      · cases e
  | bor b => exact ⟨h.1, Bp.leaf h.2 rfl⟩
  | dead => exact h.elim
theorem sg_tup {es : List Expr} {k : Nat} {ts : Tg} {N : List Str} {sc : Scope} (hc : X.calm = true) (m : mTs N sc ts es = true) (h : PGs X es (tTs X.K O ts)) : PG X (.Tuple es k pos) (tTg X.K O (.tp ts) κ) :=
  PG.imp (pg_tup hc h (assignEach_len m).1 (assignEach_len m).2) fun v σ H Q ⟨B, ρ, fs, F, f, d, S, hr, g⟩ => by
    cases d <;> try (exact g.elim)
    rename_i ds
    obtain ⟨rfl, q⟩ := rs_tuple hr
    obtain ⟨a, xs, e1, h1, z1, r1⟩ := Dq.tuple_inv q
    have g : OutE _ (bindTs ts ds ρ) := g
    have hl : ds.length = es.length := by
      cases e : bindTs ts ds ρ with
      | ok ρ1 => exact bindTs_len e m
      | exc c i => rw [e] at g; exact g.elim
      | stuck => rw [e] at g; exact g.elim
    exact ⟨a, xs, e1, S.ov.le.sqt h1, by rw [r1.length]; exact hl, B, ρ, fs, F, ds, S, r1, g⟩
/-- targets by their match -/
theorem assignEach_one {e : Expr} {es : List Expr} {t : Tg} {N : List Str} {sc : Scope} {env : Env} (m : mT N sc t e = true) : (assignEach (e :: es) env).map (·.2) = assign e env :: (assignEach es env).map (·.2) := by
  have q : assignEach (e :: es) env = (false, assign e env) :: assignEach es env := by
    cases e <;> first | rfl | (cases t <;> simp [mT] at m)
  rw [q]; rfl
mutual
theorem sg_all {N : List Str} {sc : Scope} (hN : X.N = N) (nd : N.Nodup) (hc : X.calm = true) (hl : ∀ x, isLC (lk sc x) = true → Loc X.env.scope x ∧ (X.fn x = true ∨ X.env.scope.names.lookup x = some .local)) :
    ∀ (t : Tg) (e : Expr) (O : List SK) (κ : OS), mT N sc t e = true → PG X e (tTg X.K O t κ)
  | .nm i, e, O, κ, m => by
    cases e <;> try (simp [mT] at m; done)
    simp only [mT, Bool.and_eq_true, decide_eq_true_eq] at m
    obtain ⟨h1, h2⟩ := hl _ m.2
    exact sg_name (by rw [hN]; exact nd) (by rw [hN]; exact m.1) h1 h2
  | .tp ts, e, O, κ, m => by
    cases e <;> try (simp [mT] at m; done)
    rename_i es k p
    have m : mTs N sc ts es = true := by simpa [mT] using m
    exact sg_tup hc m (sgs_all hN nd hc hl ts es O m)
  | .nil, e, O, κ, m => by simp [mT] at m
  | .cons _ _, e, O, κ, m => by simp [mT] at m
theorem sgs_all {N : List Str} {sc : Scope} (hN : X.N = N) (nd : N.Nodup) (hc : X.calm = true) (hl : ∀ x, isLC (lk sc x) = true → Loc X.env.scope x ∧ (X.fn x = true ∨ X.env.scope.names.lookup x = some .local)) :
    ∀ (t : Tg) (es : List Expr) (O : List SK), mTs N sc t es = true → PGs X es (tTs X.K O t)
  | .nil, es, O, m => by
    cases es with
    | nil => exact sg_nil
    | cons => simp [mTs] at m
  | .cons t ts, es, O, m => by
    cases es with
    | nil => simp [mTs] at m
    | cons e es =>
      simp only [mTs, Bool.and_eq_true] at m
      exact sg_cons (assignEach_one m.1) (sg_all hN nd hc hl t e O _ m.1) (sgs_all hN nd hc hl ts es _ m.2)
  | .nm _, es, O, m => by simp [mTs] at m
  | .tp _, es, O, m => by simp [mTs] at m
end
/-- the world within a comprehension: no error leaves it -/
def Wd.in (Y : Wd) : Wd := { Y with W := fun _ _ _ _ => False }
/-- a clause's tests -/
def tCd (K : PySem.W.Frag) (Y : Wd) (O : List SK) (c : C) : TT := fun σ H Q => ∃ B ρ fs F, Sta K B O ρ σ fs F H ∧ OutT K Y.cl Y.W σ B (fs.flatten ++ F) ((if isOff c then R.ok (PyData.bool true) else evE Y.Φ c ρ).bind tst) Q
theorem PTs.imp {X : Cx} {e : List Expr} {t t' : TT} (h : PTs X e t) (f : ∀ σ H Q, t' σ H Q → t σ H Q) : PTs X e t' := ⟨fun pins s σ H Q I q => h.run pins s σ H Q I (f σ H Q q)⟩
theorem cd_off {Y : Wd} : PTs X [] (tCd X.K Y O .none_) := PTs.imp pts_nil fun σ H Q ⟨B, ρ, fs, F, S, h⟩ => h B H (Le.refl _) S.ov
theorem cd_on {Y : Wd} {c : C} {e : Expr} (hc : isOff c = false) (h : PT X e (tDT X.K Y O c)) : PTs X [e] (tCd X.K Y O c) := PTs.imp (pts_one h) fun σ H Q ⟨B, ρ, fs, F, S, h⟩ => ⟨B, ρ, fs, F, S, by
  rw [hc] at h
  exact h⟩
theorem noX_ok {α β : Type} {r : R α} {f : α → R β} {b : β} (h : r.noX.bind f = .ok b) : ∃ a, r = .ok a ∧ f a = .ok b := by
  cases r with
  | ok a => exact ⟨a, rfl, h⟩
  | exc c i => cases h
  | stuck => cases h
theorem bind_ok {α β : Type} {r : R α} {f : α → R β} {b : β} (h : r.bind f = .ok b) : ∃ a, r = .ok a ∧ f a = .ok b := by
  cases r with
  | ok a => exact ⟨a, rfl, h⟩
  | exc c i => cases h
  | stuck => cases h
theorem lcGo_step {α : Type} {bind : D → En → R En} {cond : En → R D} {elt : En → R α} {ρ : En} {d : D} {ds : List D} {xs : List α} (h : lcGo bind cond elt ρ (d :: ds) = .ok xs) : ∃ ρ1 c, bind d ρ = .ok ρ1 ∧ (cond ρ1).bind tst = .ok c ∧
    (if c then ∃ x ys, elt ρ1 = .ok x ∧ lcGo bind cond elt ρ ds = .ok ys ∧ xs = x :: ys else lcGo bind cond elt ρ ds = .ok xs) := by
  obtain ⟨ρ1, h1, h⟩ := noX_ok (show (bind d ρ).noX.bind _ = .ok xs from h)
  obtain ⟨c, h2, h⟩ := noX_ok h
  refine ⟨ρ1, c, h1, h2, ?_⟩
  cases c with
  | true =>
    rw [if_pos rfl] at h ⊢
    obtain ⟨x, h3, h⟩ := noX_ok h
    obtain ⟨ys, h4, h⟩ := bind_ok h
    cases h
    exact ⟨x, ys, h3, h4, rfl⟩
  | false =>
    rw [if_neg Bool.false_ne_true] at h ⊢
    exact h
theorem lcGo_noexc {α : Type} {bind : D → En → R En} {cond : En → R D} {elt : En → R α} {ρ : En} {c : Str} {i : D} : ∀ {ds : List D}, lcGo bind cond elt ρ ds ≠ .exc c i
  | [], h => by cases h
  | d :: ds, h => by
    unfold lcGo at h
    cases e1 : (bind d ρ).noX with
    | stuck => rw [e1] at h; cases h
    | exc c i => revert e1; cases bind d ρ <;> (intro z; cases z)
    | ok ρ1 =>
      rw [e1] at h
      have h : ((cond ρ1).bind tst).noX.bind _ = .exc c i := h
      cases e2 : ((cond ρ1).bind tst).noX with
      | stuck => rw [e2] at h; cases h
      | exc c i => revert e2; cases (cond ρ1).bind tst <;> (intro z; cases z)
      | ok k =>
        rw [e2] at h
        cases k with
        | false => exact lcGo_noexc (ds := ds) h
        | true =>
          have h : (elt ρ1).noX.bind _ = .exc c i := h
          cases e3 : (elt ρ1).noX with
          | stuck => rw [e3] at h; cases h
          | exc c i => revert e3; cases elt ρ1 <;> (intro z; cases z)
          | ok x =>
            rw [e3] at h
            have h : (lcGo bind cond elt ρ ds).bind _ = .exc c i := h
            cases e4 : lcGo bind cond elt ρ ds with
            | stuck => rw [e4] at h; cases h
            | exc c' i' => exact lcGo_noexc e4
            | ok ys => rw [e4] at h; cases h
theorem lc_read {Y : Wd} {elt : C} {t : Tg} {it cond : C} {own : List Nat} {κi : OS} {fr : Bool} {r : Nat} (hκ : κi = .own 0 ∨ ∃ b, κi = .bor b) (hsl : ∀ i ∈ slT t, i ∈ own) {σ : L2.St} {H : Hp} {Q : VK}
    (h : tD X.K Y O (.lc elt t it cond own) (.own (r + 1)) σ H Q) :
    tLc (tI X.K Y O it κi fr) (tTg X.K (wipeO O own) t κi) (tCd X.K Y.in (kT t κi (wipeO O own)) cond) (tD X.K Y.in (kT t κi (wipeO O own)) elt (.own r)) own σ H Q := by
  obtain ⟨B, ρ, fs, F, S, h⟩ := h
  simp only [evE] at h
  obtain ⟨h1, h2, h3⟩ := h.bind
  refine ⟨B, ρ, fs, F, S, ?_⟩
  cases ei : evI Y.Φ it ρ with
  | stuck => exact absurd ei h1
  | exc c i => exact h2 c i ei
  | ok ds =>
    intro hlen J B1 H1 l1 o1 hJ D0 hD0
    obtain ⟨g1, g2, g3⟩ := ((h3 ds ei).mono l1).bind
    -- the whole result
    generalize hgo : lcGo (bindT t) (fun ρ => if isOff cond then .ok (.bool true) else evE Y.Φ cond ρ) (evE Y.Φ elt) (wipeD ρ own) = go at g1 g2 g3
    obtain ⟨xs, hxs⟩ : ∃ xs, go ds = .ok xs := by
      cases q : go ds with
      | ok xs => exact ⟨xs, rfl⟩
      | exc c i => rw [← hgo] at q; exact absurd q lcGo_noexc
      | stuck => exact absurd q g1
    have fin := g3 xs hxs
    generalize hcs : fs.flatten ++ F = cs at *
    have S1 : Sta X.K B1 O ρ σ fs F H1 := S.mono0 l1 (by rw [hcs]; exact o1)
    refine ⟨fun i m Hn => m = ds.length - i ∧ i ≤ ds.length ∧ ∃ B' acc facc das rest, Le B1 B' ∧ Ov B' ((D0, .lst acc) :: (facc ++ cs)) Hn ∧ All3 (Rp X.K B' r) acc das facc ∧ acc.length ≤ i ∧ go (ds.drop i) = .ok rest ∧ xs = das ++ rest, ?_, ?_⟩
    · exact ⟨ds.length, by omega, Nat.zero_le _, B1, [], [], [], xs, Le.refl _, o1.newOwn hD0 _, .nil, Nat.le_refl _, hxs, rfl⟩
    · rintro i m Hn ⟨rfl, hi, B', acc, facc, das, rest, lb, ov, ha, hal, hr, hx⟩
      have sub : ∀ p ∈ cs, p ∈ (D0, HO.lst acc) :: (facc ++ cs) := fun p hp => List.mem_cons_of_mem _ (List.mem_append_right _ hp)
      have subJ : ∀ p ∈ (if fr then [] else cs), p ∈ (D0, HO.lst acc) :: (facc ++ cs) := fun p hp => by
        cases fr with
        | true => cases hp
        | false => exact sub p hp
      obtain ⟨hstop, hgoJ⟩ := hJ B' _ Hn lb subJ ov
      rcases Nat.lt_or_ge i ds.length with hlt | hge
      · -- a turn
        refine .inr ?_
        obtain ⟨hgi, hy⟩ := hgoJ i ds[i] (by simp [hlt])
        refine ⟨hgi, fun H' => ∃ m', m' < ds.length - i ∧ (m' = ds.length - (i + 1) ∧ i + 1 ≤ ds.length ∧ ∃ B' acc facc das rest, Le B1 B' ∧ Ov B' ((D0, .lst acc) :: (facc ++ cs)) H' ∧ All3 (Rp X.K B' r) acc das facc ∧ acc.length ≤ i + 1 ∧ go (ds.drop (i + 1)) = .ok rest ∧ xs = das ++ rest), fun H' z => z, fun x H2 hyl => ?_⟩
        obtain ⟨B2, l2, o2, q2⟩ := hy x H2 hyl
        have hdrop : ds.drop i = ds[i] :: ds.drop (i + 1) := List.drop_eq_getElem_cons hlt
        rw [hdrop, ← hgo] at hr
        obtain ⟨ρ1, c, e1, e2, e3⟩ := lcGo_step hr
        -- the state, the block's own names forgotten
        have S2 : Sta X.K B2 O ρ σ fs ((D0, .lst acc) :: facc ++ F) H2 := S1.mono (f := (D0, .lst acc) :: facc) (lb.trans l2) (by rw [hcs]; exact o2)
        obtain ⟨Fw, S3, pw⟩ := S2.wipe own
        have pw' : ((wipeF fs own).flatten ++ Fw).Perm ((D0, .lst acc) :: (facc ++ cs)) := pw.symm.trans (by
          rw [← hcs]
          have := @List.perm_append_comm _ fs.flatten ((D0, HO.lst acc) :: facc)
          rw [← List.append_assoc]
          refine (List.Perm.append_right F this).trans ?_
          rw [List.append_assoc]
          exact List.Perm.refl _)
        have hsame : fsT t [] (wipeF fs own) = wipeF fs own := fsT_same t fun j hj f hf => wipeF_nil (hsl j hj) hf
        refine ⟨B2, wipeD ρ own, wipeF fs own, Fw, [], ds[i], S3, ?_, ?_⟩
        · rcases hκ with rfl | ⟨b, rfl⟩
          · exact ⟨rfl, q2⟩
          · exact ⟨rfl, q2⟩
        rw [e1]
        intro B3 σ3 l3 S4 w3
        rw [hsame] at S4
        refine ⟨(w3 own hsl).trans (wipe_wipe σ own), B3, ρ1, _, Fw, S4, ?_⟩
        show OutT _ _ _ _ _ _ ((if isOff cond then R.ok (PyData.bool true) else evE Y.Φ cond ρ1).bind tst) _
        rw [e2]
        intro B4 H4 l4 o4
        have S5 := S4.mono0 l4 o4
        have o4' : Ov B4 ((D0, .lst acc) :: (facc ++ cs)) H4 := o4.perm pw'
        have lB : Le B' B4 := l2.trans (l3.trans l4)
        cases c with
        | false =>
          rw [if_neg Bool.false_ne_true]
          rw [if_neg Bool.false_ne_true] at e3
          exact ⟨_, by omega, rfl, hlt, B4, acc, facc, das, rest, lb.trans lB, o4', ha.imp fun _ _ _ q => q.le lB, by omega, by rw [← hgo]; exact e3, hx⟩
        | true =>
          rw [if_pos rfl]
          rw [if_pos rfl] at e3
          obtain ⟨y, ys, e4, e5, e6⟩ := e3
          refine ⟨B4, ρ1, _, Fw, S5, ?_⟩
          show Out _ _ _ _ _ _ _ (evE Y.Φ elt ρ1) _
          rw [e4]
          intro v B5 f5 H5 l5 o5 q5
          have o5' : Ov B5 ((D0, .lst acc) :: ((facc ++ f5) ++ cs)) H5 := o5.perm (by
            refine (List.Perm.append_left f5 pw').trans ?_
            refine List.perm_middle.trans (List.Perm.cons _ ?_)
            rw [← List.append_assoc]
            exact List.Perm.append_right _ List.perm_append_comm)
          refine ⟨acc, (o5'.own _ _ List.mem_cons_self).1, by omega, _, by omega, rfl, hlt, B5, acc ++ [v], facc ++ f5, das ++ [y], ys, (lb.trans lB).trans l5, o5'.write _, ?_, by rw [List.length_append, List.length_singleton]; omega, by rw [← hgo]; exact e5, by rw [hx, e6, List.append_assoc]; rfl⟩
          have one : All3 (Rp X.K B5 r) [v] [y] f5 := by
            have := All3.cons (P := Rp X.K B5 r) (as := []) (bs := []) (show Rp X.K B5 r v y f5 from q5) .nil
            rwa [List.append_nil] at this
          exact (ha.imp fun _ _ _ q => q.le (lB.trans l5)).app one
      · -- the end
        refine .inl ⟨?_, ?_⟩
        · have : i = ds.length := by omega
          rw [this]; exact hstop
        · have hd : ds.drop i = [] := List.drop_eq_nil_of_le hge
          rw [hd, ← hgo] at hr
          cases hr
          rw [List.append_nil] at hx
          subst hx
          exact fin (.ref D0) B' ((D0, .lst acc) :: facc) Hn lb ov (.inr (.inl ⟨D0, acc, xs, facc, rfl, rfl, rfl, by omega, ha⟩))
end
end DL
set_option Elab.async false
set_option linter.all false
set_option maxRecDepth 100000
set_option maxHeartbeats 1000000
namespace DL
open PySem PySem.Spec PyProof.Rows L2
section
variable {K : PySem.W.Frag} {B B1 B3 B' H H1 H2 H' : Hp} {O O1 : List SK} {ρ ρ1 : En} {σ σ3 : L2.St} {fs fs3 : List Fp}
theorem Slot.free {o : SK} {r : Option D} {s : Option V} {f : Fp} (h : Slot K B3 H2 o r s f) (l : Le B3 B') (nb : ∀ b, o ≠ .e (.bor b)) : Slot K B' H' o r s f := by
  cases r with
  | none => exact h
  | some d =>
    cases o with
    | lent b p => exact h
    | e κ =>
      cases κ with
      | own n =>
        obtain ⟨v, e, hR⟩ := h
        exact ⟨v, e, hR.le l⟩
      | bor b => exact absurd rfl (nb b)
      | dead => exact h
end
end DL
set_option Elab.async false
set_option linter.all false
set_option maxRecDepth 100000
set_option maxHeartbeats 1000000
namespace DL
open PySem PySem.Spec PyProof.Rows L2
end DL
set_option Elab.async false
set_option linter.all false
set_option maxRecDepth 100000
set_option maxHeartbeats 4000000
namespace DL
open PySem PySem.Spec PyProof.Rows L2
end DL
set_option Elab.async false
set_option linter.all false
set_option maxRecDepth 100000
set_option maxHeartbeats 1000000
namespace DL
open PySem PySem.Spec PyProof.Rows L2
theorem relS_free {sc : Scope} : ∀ {names : List (Str × NameKind)} {x : Str}, names.lookup x = some .free →
    (names.map fun (n, k) => if (k == NameKind.free && sc.kind == .function && sc.names.lookup n == some .cell) then (n, NameKind.cell) else (n, k)).lookup x = some .cell ∨
    (names.map fun (n, k) => if (k == NameKind.free && sc.kind == .function && sc.names.lookup n == some .cell) then (n, NameKind.cell) else (n, k)).lookup x = some .free
  | [], x, h => by simp at h
  | (n, k₀) :: r, x, h => by
    have ih := @relS_free sc r x
    show List.lookup x ((if (k₀ == NameKind.free && sc.kind == .function && sc.names.lookup n == some .cell) = true then (n, NameKind.cell) else (n, k₀)) :: (r.map _)) = _ ∨ List.lookup x ((if (k₀ == NameKind.free && sc.kind == .function && sc.names.lookup n == some .cell) = true then (n, NameKind.cell) else (n, k₀)) :: (r.map _)) = _
    cases hx : x == n with
    | true =>
      simp only [List.lookup_cons, hx] at h
      cases h
      by_cases hc : (NameKind.free == NameKind.free && sc.kind == .function && sc.names.lookup n == some .cell) = true
      · rw [if_pos hc]; left; simp only [List.lookup_cons, hx]
      · rw [if_neg hc]; right; simp only [List.lookup_cons, hx]
    | false =>
      simp only [List.lookup_cons, hx] at h
      by_cases hc : (k₀ == NameKind.free && sc.kind == .function && sc.names.lookup n == some .cell) = true
      · rw [if_pos hc]; simp only [List.lookup_cons, hx]; exact ih h
      · rw [if_neg hc]; simp only [List.lookup_cons, hx]; exact ih h
theorem isVis_cases {k : Option NameKind} (h : isVis k = true) : k = some .local ∨ k = some .cell ∨ k = some .free := by
  cases k with
  | none => cases h
  | some k => cases k <;> first | exact .inl rfl | exact .inr (.inl rfl) | exact .inr (.inr rfl) | cases h
theorem isLC_cases {k : Option NameKind} (h : isLC k = true) : k = some .local ∨ k = some .cell := by
  cases k with
  | none => cases h
  | some k => cases k <;> first | exact .inl rfl | exact .inr rfl | cases h
theorem isLoc_cases {k : Option NameKind} (h : isLoc k = true) : k = some .local := by
  cases k with
  | none => cases h
  | some k => cases k <;> first | rfl | cases h
theorem isGlb_cases {k : Option NameKind} (h : isGlb k = true) : k = some .globalImplicit := by
  cases k with
  | none => cases h
  | some k => cases k <;> first | rfl | cases h
section
variable {T : Tx} {rds : Nat → Nat} {Y : Wd} {N : List Str} {n : Nat} {sc sc2 : Scope} {X : Cx}
theorem Good.blk (G : Good T rds Y N n sc X) {own : List (Str × Nat)} (b : blkC N sc sc2 own = true) (s : Shared) (H : Hp) (C : Addr) (cl : List (Str × Addr)) (fp : List Addr) : Good T rds Y.in N n sc2 (X.blk s H sc2 (compEnvC sc2 cl C X.env) fp) := by
  have ok := blkOk_by b
  have hsc : (compEnvC sc2 cl C X.env).scope = relS sc2 X.env.scope := rfl
  have keep : ∀ {x k}, k ≠ NameKind.free → lk sc2 x = some k → (relS sc2 X.env.scope).names.lookup x = some k := fun {x k} hk h => lookup_relS_keep hk h
  have free : ∀ {x}, lk sc2 x = some .free → (relS sc2 X.env.scope).names.lookup x = some .cell ∨ (relS sc2 X.env.scope).names.lookup x = some .free := fun {x} h => relS_free h
  refine ⟨G.hN, G.nd, G.calm, ok.kind, fun x h => ?_, fun x h => ?_, fun x h => ?_, fun x h => ?_, fun x h => ?_, fun x h => ?_, G.room, G.gd, G.gcd, takes_none5, G.fns, G.bl, G.gi, G.hl⟩
  · show Vis (relS sc2 X.env.scope) x
    rcases isVis_cases h with h | h | h
    · exact .inl (keep (by decide) h)
    · exact .inr (.inl (keep (by decide) h))
    · rcases free h with h | h
      · exact .inr (.inl h)
      · exact .inr (.inr h)
  · show L2.Loc (relS sc2 X.env.scope) x ∧ ((sc2.names.lookup x == some .cell) = true ∨ (relS sc2 X.env.scope).names.lookup x = some .local)
    rcases isLC_cases h with h | h
    · exact ⟨.inl (keep (by decide) h), .inr (keep (by decide) h)⟩
    · have h' : sc2.names.lookup x = some .cell := h
      exact ⟨.inr (keep (by decide) h), .inl (by rw [h']; rfl)⟩
  · exact keep (by decide) (isLoc_cases h)
  · show (relS sc2 X.env.scope).names.lookup x ≠ some .local
    intro z
    obtain ⟨k', e, r⟩ := lookup_relS z
    rcases r with rfl | ⟨_, r⟩
    · have e' : lk sc2 x = some .local := e
      rw [e'] at h; cases h
    · cases r
  · show (relS sc2 X.env.scope).names.lookup x = some .cell ∨ (relS sc2 X.env.scope).names.lookup x = some .free
    rcases h with h | h
    · exact .inl (keep (by decide) h)
    · exact free h
  · exact keep (k := .globalImplicit) (by decide) (isGlb_cases h)
theorem Good.units (G : Good T rds Y N n sc X) : X.A.units + 200 < cLine := by have := G.room.un; omega
theorem Good.blkOk (G : Good T rds Y N n sc X) {own : List (Str × Nat)} (b : blkC N sc sc2 own = true) : BlkOk X.N X.env.scope sc2 own := by
  have ok := blkOk_by b
  rw [G.hN]
  exact ⟨ok.kind, ok.uniq, ok.ix, fun y hy e => G.fre _ (ok.free y hy e), ok.own⟩
end
theorem fold_ok {e : Expr} {env : Env} (h : notSet e = true) : ∀ x, foldedSetIterable e env x = pure x := by
  cases e <;> first | (intro x; rfl) | (simp [notSet] at h)
theorem plainIx {e : Expr} (h : notSlice e = true) : PlainIx e := by
  cases e <;> first | (intro o i; rfl) | (simp [notSlice] at h)
theorem marks_ok {op : CmpOp} {e : Expr} (h : notSet e = true) : behindInMarks op e = false := by
  cases e <;> first | rfl | (simp [notSet] at h)
theorem lastMarks_ok {o p : CmpOp} {e e2 : Expr} (h : notSet e2 = true) : lastMarks [o, p] [e, e2] = false := by
  show behindInMarks p e2 = false
  exact marks_ok h
theorem mL_star {T : Tx} {N : List Str} {sc : Scope} : ∀ {c : C} {es : List Expr}, mL T N sc c es = true → es.all notStar = true
  | .nil, es, h => by
    cases es with
    | nil => rfl
    | cons => simp [mL] at h
  | .cons a as, es, h => by
    cases es with
    | nil => simp [mL] at h
    | cons e es =>
      simp only [mL, Bool.and_eq_true] at h
      simp only [List.all_cons, Bool.and_eq_true]
      exact ⟨h.1.2, mL_star h.2⟩
  | .var _, es, h | .cI _, es, h | .cB _, es, h | .cS _, es, h | .cN, es, h | .gI _ _, es, h | .bin _ _ _, es, h | .neg _, es, h | .not _, es, h | .and _, es, h | .or _, es, h
  | .cmp _ _ _, es, h | .chn _ _ _ _ _, es, h | .tup _, es, h | .lst _, es, h | .ix _ _, es, h | .none_, es, h | .call _ _, es, h | .callS _ _, es, h | .bi _ _, es, h
  | .lc _ _ _ _ _, es, h | .isi _ _, es, h | .mk _ _, es, h | .isE _ _ _, es, h | .att _ _, es, h | .itv _, es, h | .rng1 _, es, h | .enm _, es, h => by simp [mL] at h
theorem live_some {k : Option OS} (h : live k = true) : ∃ κ, k = some κ ∧ κ ≠ .dead := by
  cases k with
  | none => cases h
  | some κ => cases κ <;> first | (cases h; done) | exact ⟨_, rfl, (by intro z; cases z)⟩
theorem flat_some {k : Option OS} (h : flat1 k = true) : ∃ κ, k = some κ ∧ dep κ ≤ 1 ∧ κ ≠ .dead := by
  cases k with
  | none => cases h
  | some κ => exact ⟨κ, rfl, flat_dep h, by intro z; subst z; cases h⟩
theorem itemK_some {k : Option OS} {κ : OS} (h : itemK k = some κ) : ∃ κ0, k = some κ0 ∧ κ0 ≠ .dead ∧ κ = itK κ0 := by
  cases k with
  | none => cases h
  | some κ0 =>
    cases κ0 with
    | own m => cases h; exact ⟨_, rfl, (by intro z; cases z), rfl⟩
    | bor b =>
      refine ⟨_, rfl, (by intro z; cases z), ?_⟩
      simp only [itemK] at h
      simp only [itK]
      split at h
      · rename_i c; cases h; rw [if_pos c]
      · rename_i c; cases h; rw [if_neg c]
    | dead => cases h
/-- what a code owes in all places -/
structure Snd (T : Tx) (rds : Nat → Nat) (N : List Str) (n : Nat) (c : C) : Prop where
  e : ∀ {Y : Wd} {X : Cx} {sc : Scope} {O : List SK} {κ : OS} {ex : Expr}, Good T rds Y N n sc X → mE T N sc c ex = true → kE rds O c = some κ → PE X ex (tD X.K Y O c κ)
  t : ∀ {Y : Wd} {X : Cx} {sc : Scope} {O : List SK} {κ : OS} {ex : Expr}, Good T rds Y N n sc X → mE T N sc c ex = true → kE rds O c = some κ → PT X ex (tDT X.K Y O c)
  l : ∀ {Y : Wd} {X : Cx} {sc : Scope} {O : List SK} {r : Nat} {es : List Expr}, Good T rds Y N n sc X → mL T N sc c es = true → kDs rds O c = some r → PA X es (tAo X.K Y O c r)
  r : ∀ {Y : Wd} {X : Cx} {sc : Scope} {O : List SK} {ks : List (Option OS)} {es : List Expr}, Good T rds Y N n sc X → mL T N sc c es = true → kL rds O c = some ks → PA X es (tAr X.K Y O c ks)
  a : ∀ {Y : Wd} {X : Cx} {sc : Scope} {O : List SK} {κ : OS} {es : List Expr} {pos : Pos}, Good T rds Y N n sc X → mL T N sc c es = true → kM rds O c = some κ → PE X (.BoolOp .And es pos) (tDA X.K Y O c κ) ∧ PW X (.BoolOp .And es pos) (tTA X.K Y O c)
  o : ∀ {Y : Wd} {X : Cx} {sc : Scope} {O : List SK} {κ : OS} {es : List Expr} {pos : Pos}, Good T rds Y N n sc X → mL T N sc c es = true → kM rds O c = some κ → PE X (.BoolOp .Or es pos) (tDO X.K Y O c κ) ∧ PW X (.BoolOp .Or es pos) (tTO X.K Y O c)
  i : ∀ {Y : Wd} {X : Cx} {sc : Scope} {O : List SK} {κ : OS} {tg it : Expr}, Good T rds Y N n sc X → mI T N sc c it = true → kI rds O c = some κ → (needT c = true → ∃ es k p, tg = .Tuple es k p) → PI X tg it (tI X.K Y O c κ (frI rds O c))
section
variable {T : Tx} {rds : Nat → Nat} {N : List Str} {n : Nat}
/-- a code that is an expression alone -/
theorem Snd.ex {c : C} (hl : ∀ sc es, mL T N sc c es = false) (hi : ∀ sc it, mI T N sc c it = false)
    (e : ∀ {Y : Wd} {X : Cx} {sc : Scope} {O : List SK} {κ : OS} {ex : Expr}, Good T rds Y N n sc X → mE T N sc c ex = true → kE rds O c = some κ → PE X ex (tD X.K Y O c κ))
    (t : ∀ {Y : Wd} {X : Cx} {sc : Scope} {O : List SK} {κ : OS} {ex : Expr}, Good T rds Y N n sc X → mE T N sc c ex = true → kE rds O c = some κ → PT X ex (tDT X.K Y O c)) : Snd T rds N n c :=
  ⟨e, t, (fun _ m _ => by rw [hl] at m; cases m), (fun _ m _ => by rw [hl] at m; cases m), (fun _ m _ => by rw [hl] at m; cases m), (fun _ m _ => by rw [hl] at m; cases m), (fun _ m _ _ => by rw [hi] at m; cases m)⟩
/-- .. whose test is its value -/
theorem Snd.val {c : C} (hl : ∀ sc es, mL T N sc c es = false) (hi : ∀ sc it, mI T N sc c it = false)
    (ht : ∀ sc ex env, mE T N sc c ex = true → ∀ whole, isTrue ex env whole = (do let v ← whole; standAt ex.pos; holding [v] (PySem.truthy v)))
    (e : ∀ {Y : Wd} {X : Cx} {sc : Scope} {O : List SK} {κ : OS} {ex : Expr}, Good T rds Y N n sc X → mE T N sc c ex = true → kE rds O c = some κ → PE X ex (tD X.K Y O c κ)) : Snd T rds N n c :=
  Snd.ex hl hi e fun G m k => st_val (e G m k) (ht _ _ _ m)
end
end DL
set_option Elab.async false
set_option linter.all false
set_option maxRecDepth 100000
set_option maxHeartbeats 4000000
namespace DL
open PySem PySem.Spec PyProof.Rows L2
section
variable {T : Tx} {rds : Nat → Nat} {N : List Str} {n : Nat}
theorem okName3 {x : Str} (h : okName x = true) : (x == ("__debug__" : Str)) = false ∧ (x == ("__classdict__" : Str)) = false ∧ x ≠ "__name__" := by
  simp only [okName, Bool.and_eq_true, Bool.not_eq_true', decide_eq_true_eq] at h
  exact ⟨h.1.1, h.1.2, h.2⟩
theorem bltOk3 {sc : Scope} {x : Str} (h : bltOk T sc x = true) : isGlb (lk sc x) = true ∧ okName x = true ∧ T.bl.contains x = true := by
  simp only [bltOk, Bool.and_eq_true] at h
  exact ⟨h.1.1, h.1.2, h.2⟩
theorem snd_var (i : Nat) : Snd T rds N n (.var i) :=
  Snd.val (by intros; simp [mL]) (by intros; simp [mI]) (by intro sc ex env m w; cases ex <;> first | rfl | (simp [mE] at m)) fun {Y X sc O κ ex} G m k => by
    cases ex <;> try (simp [mE] at m; done)
    simp only [mE, Bool.and_eq_true, decide_eq_true_eq] at m
    obtain ⟨a, b, _⟩ := okName3 m.2
    exact se_var (by rw [G.hN]; exact m.1.1) (G.vis _ m.1.2) a b k
theorem snd_cI (i : Int) : Snd T rds N n (.cI i) :=
  Snd.val (by intros; simp [mL]) (by intros; simp [mI]) (by intro sc ex env m w; cases ex <;> first | rfl | (simp [mE] at m)) fun {Y X sc O κ ex} G m k => by
    cases ex <;> try (simp [mE] at m; done)
    rename_i v j p
    cases v <;> try (simp [mE] at m; done)
    simp only [mE, decide_eq_true_eq] at m
    subst m
    simp only [kE, Option.some.injEq] at k; subst k
    exact se_int
theorem snd_cB (i : Bool) : Snd T rds N n (.cB i) :=
  Snd.val (by intros; simp [mL]) (by intros; simp [mI]) (by intro sc ex env m w; cases ex <;> first | rfl | (simp [mE] at m)) fun {Y X sc O κ ex} G m k => by
    cases ex <;> try (simp [mE] at m; done)
    rename_i v j p
    cases v <;> try (simp [mE] at m; done)
    simp only [mE, decide_eq_true_eq] at m
    subst m
    simp only [kE, Option.some.injEq] at k; subst k
    exact se_bl
theorem snd_cS (i : Str) : Snd T rds N n (.cS i) :=
  Snd.val (by intros; simp [mL]) (by intros; simp [mI]) (by intro sc ex env m w; cases ex <;> first | rfl | (simp [mE] at m)) fun {Y X sc O κ ex} G m k => by
    cases ex <;> try (simp [mE] at m; done)
    rename_i v j p
    cases v <;> try (simp [mE] at m; done)
    simp only [mE, decide_eq_true_eq] at m
    subst m
    simp only [kE, Option.some.injEq] at k; subst k
    exact se_str
theorem snd_gI (y : Str) (i : Int) : Snd T rds N n (.gI y i) :=
  Snd.val (by intros; simp [mL]) (by intros; simp [mI]) (by intro sc ex env m w; cases ex <;> first | rfl | (simp [mE] at m)) fun {Y X sc O κ ex} G m k => by
    cases ex <;> try (simp [mE] at m; done)
    simp only [mE, Bool.and_eq_true, decide_eq_true_eq] at m
    obtain ⟨⟨⟨rfl, m2⟩, m3⟩, m4⟩ := m
    simp only [kE, Option.some.injEq] at k; subst k
    obtain ⟨u, hu, r⟩ := G.gi _ _ m4
    exact se_gI (G.gl _ m2) hu r (okName3 m3).1
theorem snd_cN : Snd T rds N n .cN :=
  Snd.val (by intros; simp [mL]) (by intros; simp [mI]) (by intro sc ex env m w; cases ex <;> first | rfl | (simp [mE] at m)) fun {Y X sc O κ ex} G m k => by
    cases ex <;> try (simp [mE] at m; done)
    rename_i v j p
    cases v <;> try (simp [mE] at m; done)
    simp only [kE, Option.some.injEq] at k; subst k
    exact se_non
theorem snd_bin {o : B2} {a b : C} (ha : Snd T rds N n a) (hb : Snd T rds N n b) : Snd T rds N n (.bin o a b) :=
  Snd.val (by intros; simp [mL]) (by intros; simp [mI]) (by intro sc ex env m w; cases ex <;> first | rfl | (simp [mE] at m)) fun {Y X sc O κ ex} G m k => by
    cases ex <;> try (simp [mE] at m; done)
    simp only [mE, Bool.and_eq_true, decide_eq_true_eq] at m
    obtain ⟨⟨rfl, m1⟩, m2⟩ := m
    simp only [kE] at k
    split at k
    · rename_i c
      cases k
      simp only [Bool.and_eq_true] at c
      obtain ⟨κa, ea, da, _⟩ := flat_some c.1
      obtain ⟨κb, eb, db, _⟩ := flat_some c.2
      obtain ⟨r, ho, hf⟩ := op_bin (X := X) (Y := Y) o da db
      exact se_op ho hf (ha.e G m1 ea) (hb.e G m2 eb)
    · cases k
theorem snd_neg {a : C} (ha : Snd T rds N n a) : Snd T rds N n (.neg a) :=
  Snd.val (by intros; simp [mL]) (by intros; simp [mI]) (by
    intro sc ex env m w
    cases ex <;> try (simp [mE] at m; done)
    rename_i op x p
    cases op <;> first | rfl | (simp [mE] at m)) fun {Y X sc O κ ex} G m k => by
    cases ex <;> try (simp [mE] at m; done)
    rename_i op x p
    cases op <;> try (simp [mE] at m; done)
    simp only [mE] at m
    simp only [kE] at k
    split at k
    · rename_i c
      cases k
      obtain ⟨κa, ea, _⟩ := live_some c
      exact se_neg (ha.e G m ea)
    · cases k
theorem snd_not {a : C} (ha : Snd T rds N n a) : Snd T rds N n (.not a) := by
  have go : ∀ {Y : Wd} {X : Cx} {sc : Scope} {O : List SK} {κ : OS} {ex : Expr}, Good T rds Y N n sc X → mE T N sc (.not a) ex = true → kE rds O (.not a) = some κ → PE X ex (tD X.K Y O (.not a) κ) ∧ PT X ex (tDT X.K Y O (.not a)) := fun {Y X sc O κ ex} G m k => by
    cases ex <;> try (simp [mE] at m; done)
    rename_i op x p
    cases op <;> try (simp [mE] at m; done)
    simp only [mE] at m
    simp only [kE] at k
    split at k
    · rename_i c
      cases k
      obtain ⟨κa, ea, _⟩ := live_some c
      exact ⟨se_not (ha.e G m ea), st_not (ha.t G m ea)⟩
    · cases k
  exact Snd.ex (by intros; simp [mL]) (by intros; simp [mI]) (fun G m k => (go G m k).1) (fun G m k => (go G m k).2)
theorem snd_and {es : C} (h : Snd T rds N n es) : Snd T rds N n (.and es) := by
  have go : ∀ {Y : Wd} {X : Cx} {sc : Scope} {O : List SK} {κ : OS} {ex : Expr}, Good T rds Y N n sc X → mE T N sc (.and es) ex = true → kE rds O (.and es) = some κ → PE X ex (tD X.K Y O (.and es) κ) ∧ PT X ex (tDT X.K Y O (.and es)) := fun {Y X sc O κ ex} G m k => by
    cases ex <;> try (simp [mE] at m; done)
    rename_i op xs p
    cases op <;> try (simp [mE] at m; done)
    cases xs with
    | nil => simp [mE] at m
    | cons x xs =>
      simp only [mE] at m
      simp only [kE] at k
      obtain ⟨h1, h2⟩ := h.a (pos := p) G m k
      refine ⟨PE.imp h1 fun σ H Q ⟨B, ρ, fs, F, S, z⟩ => ⟨B, ρ, fs, F, S, by simpa only [evE] using z⟩, PT.imp h2.pt fun σ H Q ⟨B, ρ, fs, F, S, z⟩ => ⟨B, ρ, fs, F, S, by simpa only [evE] using z⟩⟩
  exact Snd.ex (by intros; simp [mL]) (by intros; simp [mI]) (fun G m k => (go G m k).1) (fun G m k => (go G m k).2)
theorem snd_or {es : C} (h : Snd T rds N n es) : Snd T rds N n (.or es) := by
  have go : ∀ {Y : Wd} {X : Cx} {sc : Scope} {O : List SK} {κ : OS} {ex : Expr}, Good T rds Y N n sc X → mE T N sc (.or es) ex = true → kE rds O (.or es) = some κ → PE X ex (tD X.K Y O (.or es) κ) ∧ PT X ex (tDT X.K Y O (.or es)) := fun {Y X sc O κ ex} G m k => by
    cases ex <;> try (simp [mE] at m; done)
    rename_i op xs p
    cases op <;> try (simp [mE] at m; done)
    cases xs with
    | nil => simp [mE] at m
    | cons x xs =>
      simp only [mE] at m
      simp only [kE] at k
      obtain ⟨h1, h2⟩ := h.o (pos := p) G m k
      refine ⟨PE.imp h1 fun σ H Q ⟨B, ρ, fs, F, S, z⟩ => ⟨B, ρ, fs, F, S, by simpa only [evE] using z⟩, PT.imp h2.pt fun σ H Q ⟨B, ρ, fs, F, S, z⟩ => ⟨B, ρ, fs, F, S, by simpa only [evE] using z⟩⟩
  exact Snd.ex (by intros; simp [mL]) (by intros; simp [mI]) (fun G m k => (go G m k).1) (fun G m k => (go G m k).2)
theorem snd_cmp {o : Cp} {a b : C} (ha : Snd T rds N n a) (hb : Snd T rds N n b) : Snd T rds N n (.cmp o a b) := by
  have go : ∀ {Y : Wd} {X : Cx} {sc : Scope} {O : List SK} {κ : OS} {ex : Expr}, Good T rds Y N n sc X → mE T N sc (.cmp o a b) ex = true → kE rds O (.cmp o a b) = some κ → PE X ex (tD X.K Y O (.cmp o a b) κ) ∧ PT X ex (tDT X.K Y O (.cmp o a b)) := fun {Y X sc O κ ex} G m k => by
    cases ex <;> try (simp [mE] at m; done)
    rename_i x ops ys p
    rcases ops with _ | ⟨q, _ | ⟨q2, ops⟩⟩ <;> rcases ys with _ | ⟨y, _ | ⟨y2, ys⟩⟩ <;> try (simp [mE] at m; done)
    simp only [mE, Bool.and_eq_true, decide_eq_true_eq] at m
    obtain ⟨⟨⟨⟨rfl, m1⟩, m2⟩, m3⟩, m4⟩ := m
    simp only [kE] at k
    split at k
    · rename_i c
      cases k
      simp only [Bool.and_eq_true] at c
      obtain ⟨κa, ea, _⟩ := live_some c.1
      obtain ⟨κb, eb, _⟩ := live_some c.2
      obtain ⟨r, ho, hf⟩ := op_cp (X := X) (Y := Y) (da := dep κa) (db := dep κb) G.units o 50
      exact ⟨se_cmp ho hf (ha.e G m1 ea) (hb.e G m2 eb) (marks_ok m3), st_cmp ho hf (ha.e G m1 ea) (hb.e G m2 eb) (marks_ok m3)⟩
    · cases k
  exact Snd.ex (by intros; simp [mL]) (by intros; simp [mI]) (fun G m k => (go G m k).1) (fun G m k => (go G m k).2)
theorem snd_chn {o p : Cp} {a b c : C} (ha : Snd T rds N n a) (hb : Snd T rds N n b) (hc : Snd T rds N n c) : Snd T rds N n (.chn o p a b c) := by
  have go : ∀ {Y : Wd} {X : Cx} {sc : Scope} {O : List SK} {κ : OS} {ex : Expr}, Good T rds Y N n sc X → mE T N sc (.chn o p a b c) ex = true → kE rds O (.chn o p a b c) = some κ → PE X ex (tD X.K Y O (.chn o p a b c) κ) ∧ PT X ex (tDT X.K Y O (.chn o p a b c)) := fun {Y X sc O κ ex} G m k => by
    cases ex <;> try (simp [mE] at m; done)
    rename_i x ops ys ps
    rcases ops with _ | ⟨q, _ | ⟨q2, _ | ⟨q3, ops⟩⟩⟩ <;> rcases ys with _ | ⟨y, _ | ⟨y2, _ | ⟨y3, ys⟩⟩⟩ <;> try (simp [mE] at m; done)
    simp only [mE, Bool.and_eq_true, decide_eq_true_eq] at m
    obtain ⟨⟨⟨⟨⟨⟨⟨rfl, rfl⟩, m1⟩, m2⟩, m3⟩, m4⟩, m5⟩, m6⟩ := m
    simp only [kE] at k
    split at k
    · rename_i cc
      cases k
      simp only [Bool.and_eq_true] at cc
      obtain ⟨κa, ea, _⟩ := live_some cc.1.1
      obtain ⟨κb, eb, _⟩ := live_some cc.1.2
      obtain ⟨κc, ec, _⟩ := live_some cc.2
      obtain ⟨r, ho, hf⟩ := op_cp (X := X) (Y := Y) (da := dep κa) (db := dep κb) G.units o 50
      obtain ⟨r', ho', hf'⟩ := op_cp (X := X) (Y := Y) (da := dep κb) (db := dep κc) G.units p 50
      exact ⟨se_chn ho ho' hf hf' (ha.e G m1 ea) (hb.e G m2 eb) (hc.e G m3 ec) (lastMarks_ok m5), st_chn ho ho' hf hf' (ha.e G m1 ea) (hb.e G m2 eb) (hc.e G m3 ec) (lastMarks_ok m5)⟩
    · cases k
  exact Snd.ex (by intros; simp [mL]) (by intros; simp [mI]) (fun G m k => (go G m k).1) (fun G m k => (go G m k).2)
theorem snd_tup {es : C} (h : Snd T rds N n es) : Snd T rds N n (.tup es) :=
  Snd.val (by intros; simp [mL]) (by intros; simp [mI]) (by intro sc ex env m w; cases ex <;> first | rfl | (simp [mE] at m)) fun {Y X sc O κ ex} G m k => by
    cases ex <;> try (simp [mE] at m; done)
    simp only [mE] at m
    simp only [kE] at k
    split at k
    · rename_i r e
      cases k
      exact se_tup (h.l G m e)
    · cases k
theorem snd_lst {es : C} (h : Snd T rds N n es) : Snd T rds N n (.lst es) :=
  Snd.val (by intros; simp [mL]) (by intros; simp [mI]) (by intro sc ex env m w; cases ex <;> first | rfl | (simp [mE] at m)) fun {Y X sc O κ ex} G m k => by
    cases ex <;> try (simp [mE] at m; done)
    simp only [mE] at m
    simp only [kE] at k
    split at k
    · rename_i r e
      cases k
      exact se_lst (h.l G m e)
    · cases k
theorem snd_ix {a i : C} (ha : Snd T rds N n a) (hi : Snd T rds N n i) : Snd T rds N n (.ix a i) :=
  Snd.val (by intros; simp [mL]) (by intros; simp [mI]) (by intro sc ex env m w; cases ex <;> first | rfl | (simp [mE] at m)) fun {Y X sc O κ ex} G m k => by
    cases ex <;> try (simp [mE] at m; done)
    simp only [mE, Bool.and_eq_true] at m
    simp only [kE] at k
    split at k
    · rename_i c
      obtain ⟨κi, ei, _⟩ := live_some c
      obtain ⟨κ0, e0, nd, rfl⟩ := itemK_some k
      obtain ⟨r, ho, hf⟩ := op_ix (X := X) (Y := Y) (db := dep κi) nd
      exact se_ix ho hf (ha.e G m.1.1 e0) (hi.e G m.1.2 ei) (plainIx m.2)
    · cases k
theorem snd_none : Snd T rds N n .none_ := Snd.ex (by intros; simp [mL]) (by intros; simp [mI]) (fun G m k => by simp [mE] at m) (fun G m k => by simp [mE] at m)
theorem call_shape {f : Nat} {es : C} {sc : Scope} {ex : Expr} (m : mE T N sc (.call f es) ex = true) : ∃ x p y ys pos, ex = .Call (.Name x p) (y :: ys) [] pos ∧ T.fn[f]? = some x ∧ isGlb (lk sc x) = true ∧ okName x = true ∧ mL T N sc es (y :: ys) = true := by
  unfold mE at m
  split at m
  · simp only [Bool.and_eq_true, decide_eq_true_eq] at m
    exact ⟨_, _, _, _, _, rfl, m.1.1.1, m.1.1.2, m.1.2, m.2⟩
  · cases m
theorem snd_call {f : Nat} {es : C} (h : Snd T rds N n es) : Snd T rds N n (.call f es) := by
  refine Snd.val (by intros; simp [mL]) (by intros; simp [mI]) (fun sc ex env m w => ?_) fun {Y X sc O κ ex} G m k => ?_
  · obtain ⟨x, p, y, ys, pos, rfl, _⟩ := call_shape m
    rfl
  · obtain ⟨x, p, y, ys, pos, rfl, hf, hg, hn, hm⟩ := call_shape m
    simp only [kE] at k
    split at k
    · rename_i r e
      cases k
      exact se_call G hf (G.gl _ hg) (okName3 hn).1 (mL_star hm) (h.l G hm e)
    · cases k
theorem snd_callS {f : Nat} {es : C} (h : Snd T rds N n es) : Snd T rds N n (.callS f es) := by
  have sh : ∀ {sc : Scope} {ex : Expr}, mE T N sc (.callS f es) ex = true → mE T N sc (.call f es) ex = true := fun {sc ex} m => by
    unfold mE at m ⊢
    exact m
  refine Snd.val (by intros; simp [mL]) (by intros; simp [mI]) (fun sc ex env m w => ?_) fun {Y X sc O κ ex} G m k => ?_
  · obtain ⟨x, p, y, ys, pos, rfl, _⟩ := call_shape (sh m)
    rfl
  · obtain ⟨x, p, y, ys, pos, rfl, hf, hg, hn, hm⟩ := call_shape (sh m)
    simp only [kE] at k
    split at k
    · rename_i r e
      cases k
      exact se_callS G hf (G.gl _ hg) (okName3 hn).1 (mL_star hm) (h.r G hm e)
    · cases k
theorem tyx_of {X : Cx} {B H : Hp} {d : D} {v : V} (q : Dq X.K H v d) (hd : isDict d = false) : ∃ n : String, TyX X.K H v (.type n) ∧ Str.ofString n = tyD d ∧ n ∈ ["NoneType", "bool", "int", "str", "list", "tuple"] := by
  cases q with
  | non => exact ⟨_, .base .non, rfl, by decide⟩
  | bl b => exact ⟨_, .base (.bl b), rfl, by decide⟩
  | int i => exact ⟨_, .base (.int i), rfl, by decide⟩
  | str x => exact ⟨_, .base (.str x), rfl, by decide⟩
  | lst s _ _ => exact ⟨_, .base (.lst s), rfl, by decide⟩
  | rdl _ _ => cases hd
  | er _ _ _ => cases hd
  | tup s _ _ =>
    rcases s with (h | ⟨o, h⟩) | h
    · exact ⟨_, .base (.tup h), rfl, by decide⟩
    · exact ⟨_, .fTuple h, rfl, by decide⟩
    · obtain ⟨o, _, _, h1, h2, _⟩ := h
      exact ⟨_, .kTuple h1 (by first | exact h2 | (rw [h2])), rfl, by decide⟩
  | dk _ _ => cases hd
  | dt _ _ => cases hd
theorem kit_all {K : PySem.W.Frag} {n t : String} (hn : n ∈ ["NoneType", "bool", "int", "str", "list", "tuple"]) (ht : t ∈ ["list", "tuple", "bool", "int"]) (hx : ¬ (n = "bool" ∧ t = "int")) : PySem.W.kitOne K (.type n) (.type t) = some (decide (Str.ofString n = Str.ofString t)) := by
  simp only [List.mem_cons, List.not_mem_nil, or_false] at hn ht
  rcases hn with rfl | rfl | rfl | rfl | rfl | rfl <;> rcases ht with rfl | rfl | rfl | rfl <;> first | exact absurd ⟨rfl, rfl⟩ hx | exact L2.kit_ty (by decide +kernel)
theorem bo_of {d : D} (h : Str.ofString "bool" = tyD d) : isBo d = true := by
  cases d with
  | bool b => rfl
  | none => exact absurd (show Str.ofString "bool" = ("NoneType" : Str) from h) (by decide +kernel)
  | int i => exact absurd (show Str.ofString "bool" = ("int" : Str) from h) (by decide +kernel)
  | str x => exact absurd (show Str.ofString "bool" = ("str" : Str) from h) (by decide +kernel)
  | list xs => exact absurd (show Str.ofString "bool" = ("list" : Str) from h) (by decide +kernel)
  | tuple xs => exact absurd (show Str.ofString "bool" = ("tuple" : Str) from h) (by decide +kernel)
  | dict xs => exact absurd (show Str.ofString "bool" = ("dict" : Str) from h) (by decide +kernel)
theorem snd_isi {t : Str} {a : C} (h : Snd T rds N n a) : Snd T rds N n (.isi t a) := by
  have sh : ∀ {sc : Scope} {ex : Expr}, mE T N sc (.isi t a) ex = true → ∃ p y q pos, ex = .Call (.Name "isinstance" p) [y, .Name t q] [] pos ∧ bltOk T sc "isinstance" = true ∧ bltOk T sc t = true ∧ isiT t = true ∧ mE T N sc a y = true ∧ notStar y = true := fun {sc ex} m => by
    unfold mE at m
    split at m
    · simp only [Bool.and_eq_true, decide_eq_true_eq] at m
      obtain ⟨⟨⟨⟨⟨⟨rfl, m1⟩, rfl⟩, m2⟩, m3⟩, m4⟩, m5⟩ := m
      exact ⟨_, _, _, _, rfl, m1, m2, m3, m4, m5⟩
    · cases m
  refine Snd.val (by intros; simp [mL]) (by intros; simp [mI]) (fun sc ex env m w => ?_) fun {Y X sc O κ ex} G m k => ?_
  · obtain ⟨p, y, q, pos, rfl, _⟩ := sh m
    rfl
  · obtain ⟨p, y, q, pos, rfl, m1, m2, m3, m4, m5⟩ := sh m
    simp only [kE] at k
    split at k
    · rename_i hl
      cases k
      obtain ⟨κa, ka, _⟩ := live_some hl
      obtain ⟨g1, g2, g3⟩ := bltOk3 m1
      obtain ⟨t1, t2, t3⟩ := bltOk3 m2
      obtain ⟨tn, et, ht, hb⟩ : ∃ tn : String, t = Str.ofString tn ∧ tn ∈ ["list", "tuple", "bool", "int"] ∧ bootBuiltins t = some (.type tn) := by
        simp only [isiT, Bool.or_eq_true, decide_eq_true_eq] at m3
        rcases m3 with ((rfl | rfl) | rfl) | rfl
        · exact ⟨"list", rfl, by decide, by first | rfl | kernel_rfl⟩
        · exact ⟨"tuple", rfl, by decide, by first | rfl | kernel_rfl⟩
        · exact ⟨"bool", rfl, by decide, by first | rfl | kernel_rfl⟩
        · exact ⟨"int", rfl, by decide, by first | rfl | kernel_rfl⟩
      have o2 := okName3 t2
      have hT : PE X (.Name t q) (tC (.ty tn)) := pe_bltn (v := .ty tn) (G.gl _ t1) (G.bl _ t3) hb rfl o2.2.2 o2.1
      have s1 : starEach [y, .Name t q] X.env = (false, eval y X.env) :: starEach [.Name t q] X.env := star_off m5
      have o1 := okName3 g2
      refine PE.imp (pe_callB call_isi (G.gl _ g1) (G.bl _ g3) (by first | rfl | kernel_rfl) (pa_cons (h.e G m4 ka) (pa_cons hT pa_nil) s1) o1.2.2 o1.1 s1 rfl) fun σ H Q ⟨B, ρ, fs, F, S, h⟩ => ?_
      simp only [evE] at h
      obtain ⟨h1, h2, h3⟩ := h.bind
      refine ⟨B, ρ, fs, F, S, Out.opnd h1 h2 fun d hd v B1 H1 l1 o1 q1 => ?_⟩
      have hd := (h3 d hd).mono l1
      unfold evIsi at hd
      obtain ⟨e1, hd⟩ := hd.guard
      have q2 := q1.dq o1.le
      rw [Bool.and_eq_true, Bool.not_eq_true', Bool.not_eq_true'] at e1
      obtain ⟨nn, ty, en, hn⟩ := tyx_of (X := X) (B := B1) q2 e1.1
      have hx : ¬ (nn = "bool" ∧ tn = "int") := by
        rintro ⟨rfl, rfl⟩
        have e2 := e1.2
        rw [bo_of en, et] at e2
        exact absurd e2 (by decide +kernel)
      exact ⟨v, .ty tn, _, _, _, rfl, .ty tn, ty, kit_all hn ht hx, by rw [en, ← et]; exact Out.leaf hd o1 (.bl _) rfl⟩
    · cases k
theorem snd_bi {b : Bi} {es : C} (h : Snd T rds N n es) : Snd T rds N n (.bi b es) := by
  have sh : ∀ {sc : Scope} {ex : Expr}, mE T N sc (.bi b es) ex = true → ∃ p y ys pos, ex = .Call (.Name (biName b) p) (y :: ys) [] pos ∧ (if b == .gcd then T.gcd && isGlb (lk sc (biName b)) && okName (biName b) else bltOk T sc (biName b)) = true ∧ mL T N sc es (y :: ys) = true := fun {sc ex} m => by
    unfold mE at m
    split at m
    · simp only [Bool.and_eq_true, decide_eq_true_eq] at m
      obtain ⟨⟨rfl, m1⟩, m2⟩ := m
      exact ⟨_, _, _, _, rfl, m1, m2⟩
    · cases m
  refine Snd.val (by intros; simp [mL]) (by intros; simp [mI]) (fun sc ex env m w => ?_) fun {Y X sc O κ ex} G m k => ?_
  · obtain ⟨p, y, ys, pos, rfl, _⟩ := sh m
    rfl
  · obtain ⟨p, y, ys, pos, rfl, hb, hm⟩ := sh m
    simp only [kE] at k
    split at k
    · rename_i ks e
      have ha := h.r G hm e
      cases bi_all (X := X) (Y := Y) b G.calm G.gd G.units k with
      | blt id r hc hr hv hn =>
        have hb' : (b == Bi.gcd) = false := by simpa using hn
        rw [hb', if_neg Bool.false_ne_true] at hb
        obtain ⟨h1, h2, h3⟩ := bltOk3 hb
        exact se_biB hc hr (G.gl _ h1) (G.bl _ h3) hv h2 (mL_star hm) ha
      | typ id r hc hr hv hn =>
        have hb' : (b == Bi.gcd) = false := by simpa using hn
        rw [hb', if_neg Bool.false_ne_true] at hb
        obtain ⟨h1, h2, h3⟩ := bltOk3 hb
        exact se_biT hc hr (G.gl _ h1) (G.bl _ h3) hv h2 (mL_star hm) ha
      | fun_ r hc hr hb2 =>
        subst hb2
        rw [if_pos (by decide)] at hb
        simp only [Bool.and_eq_true] at hb
        exact se_biF hc hr (G.gl _ hb.1.2) (G.gcd hb.1.1) hb.2 (mL_star hm) ha
    · cases k
end
end DL
set_option Elab.async false
set_option linter.all false
set_option maxRecDepth 100000
set_option maxHeartbeats 2000000
namespace DL
open PySem PySem.Spec PyProof.Rows L2
theorem errOf_some {d : D} {x : Str} {i : Int} (h : errOf d = some (x, i)) : d = .dict [(.none, .tuple [.str x, .int i])] := by
  unfold errOf at h
  split at h
  · cases h; rfl
  · cases h
section
variable {K : PySem.W.Frag} {B H : Hp}
theorem Dq.er_inv {v : V} {x : Str} {i : Int} (h : Dq K B v (.dict [(.none, .tuple [.str x, .int i])])) : ∃ a C dd, v = .ref a ∧ B a = some (errO C dd a) ∧ B dd = some (.xd [(("at" : Str), V.int i)]) ∧ clK K x = some C := by
  have nk : ∀ k : Key, kD k ≠ .none := fun k => by cases k <;> (intro z; cases z)
  generalize hd : (PyData.dict [(PyData.none, PyData.tuple [.str x, .int i])]) = d at h
  cases h with
  | dk s r =>
    injection hd with hd
    generalize hl : [(PyData.none, PyData.tuple [.str x, .int i])] = l at hd
    subst hd
    cases r with
    | nil => cases hl
    | @cons k _ _ _ _ _ _ =>
      injection hl with h1 _
      injection h1 with h2 _
      exact absurd h2.symm (nk k)
  | dt s r =>
    injection hd with hd
    generalize hl : [(PyData.none, PyData.tuple [.str x, .int i])] = l at hd
    subst hd
    cases r with
    | nil => cases hl
    | @cons k _ _ _ _ _ _ =>
      injection hl with h1 _
      injection h1 with h2 _
      exact absurd h2.symm (by unfold ktD; intro z; cases z)
  | er h1 h2 h3 => cases hd; exact ⟨_, _, _, rfl, h1, h2, h3⟩
  | _ => cases hd
end
theorem errO_ok {P : Program} {w : World} {H : Hp} {h : Heap} {e C dd : Addr} {oe : Obj} {vs : Array Value} (he : h.get? e = some oe) (h1 : oe.cls = .ref C) (h2 : oe.dict = some dd) (h3 : oe.data = .fields vs) : ObjOk P w H h e (errO C dd e) :=
  ⟨⟨oe, vs, he, h1, h2, h3⟩, ⟨_, he⟩, fun a b z k => by
    obtain ⟨oe, vs, q, q1, q2, q3⟩ := z
    exact ⟨oe, vs, k _ q, q1, q2, q3⟩⟩
theorem errO_at {P : Program} {w : World} {H : Hp} {h : Heap} {e C dd : Addr} (hok : HOk P w H h) (he : H e = some (errO C dd e)) : ∃ oe vs, h.get? e = some oe ∧ oe.cls = .ref C ∧ oe.dict = some dd ∧ oe.data = .fields vs := by
  have x : ObjOk P w H h e (.ext fun h => ∃ oe vs, h.get? e = some oe ∧ oe.cls = .ref C ∧ oe.dict = some dd ∧ oe.data = .fields vs) := hok e _ he
  exact x.1
section
variable {X : Cx} {C D fI : Addr} {x : Str}
/-- X(e), as a value -/
def tMkE (C : Addr) (ta : TA) : TE := fun σ H Q => ta σ H fun vs H1 => ∃ v, vs = [v] ∧ ∀ d e, H1 d = none → H1 e = none → d ≠ e → Q (.ref e) (upd (upd H1 d (.xd [(("at" : Str), v)])) e (errO C d e))
theorem pe_mkE {a : Expr} {ta : TA} {p pos : Pos} (F : HFn X.prog X.K D fI) (T : HCls X.K D fI C) (hd : X.A.depth + 1 < recursionLimit) (ha : PA X [a] ta) (hg : Gl X x) (hm : X.mg x = some (.ref C)) (hs : X.mg "super" = none)
    (hdb : (x == ("__debug__" : Str)) = false) (he : starEach [a] X.env = [(false, eval a X.env)]) : PE X (.Call (.Name x p) [a] [] pos) (tMkE C ta) := by
  refine ⟨fun pins s σ H Q I h => ?_⟩
  refine wpAny_Call_Name_kw (ld_glob I hg hm ?_ hdb)
  refine PySem.W.callWith_K (h₀ := X.base) I.ok.mod.kin T.kC (thn (ha.run pos pins s σ H _ I h) fun us s1 hh => ?_) he rfl
  obtain ⟨vs, H1, I1, r1, v, ev, q1⟩ := hh
  subst ev
  refine ⟨I1.kIn, ?_⟩
  cases r1 with
  | cons rv rn =>
    rename_i v' us'
    cases rn
    show wpAny _ _ (call (.ref C) [v']) _ _ _
    have lim := I1.nolimit
    obtain ⟨mb, m1, m2⟩ := I1.mod.blt
    have gl := I1.mod.glob.keeps I1.bk
    have bl := m1.keeps I1.bk
    obtain ⟨hp, g, dr, tk, os⟩ := s1
    refine wpAny_call (hall_made F T I1.kIn lim gl hs ⟨mb, bl, (m2 _ (by decide)).trans (by first | rfl | kernel_rfl)⟩ hd fun h' tk' e d M => ?_)
    obtain ⟨oe, fv, hoe, hc, hdd, hdat, h1⟩ := M.obj
    have hns := M.ns
    obtain ⟨G', g1, g2⟩ := restrict h' fun b => decide (b ≠ e)
    have gk : ∀ b, b ≠ e → G'.get? b = h'.get? b := fun b hb => g1 b (decide_eq_true hb)
    have ge : G'.get? e = none := g2 e (by simp)
    have old : ∀ b o, hp.get? b = some o → G'.get? b = some o := fun b o q => (gk b (Nat.ne_of_lt (Nat.lt_of_lt_of_le (Heap.lt_size q) M.new))).trans (M.keep b o q)
    have ob : ObjOk X.prog X.w (upd H1 d (.xd [(("at" : Str), v)])) G' d (.xd [(("at" : Str), v)]) := ⟨_, hns.at (fun o q => (gk d M.dne).trans q), fun f => relO_at rv f⟩
    have J : Inv X pins σ (upd H1 d (.xd [(("at" : Str), v)])) ⟨G', g, dr, tk', os⟩ := I1.laid (t' := tk') old M.dbig ob
    have hd1 := I1.hok.fresh M.dbig
    have he1 := I1.hok.fresh M.new
    have J2 := J.laidN (h' := h') (a := e) (o := errO C d e) (t' := tk') (fun b o q => by
      by_cases hb : b = e
      · rw [hb] at q
        have q : G'.get? e = some o := q
        rw [ge] at q; cases q
      · exact (gk b hb).symm.trans q) ge (by rw [upd_ne (Ne.symm M.dne)]; exact he1) (errO_ok hoe hc hdd hdat)
    exact ⟨.ref e, _, J2, rfl, q1 d e hd1 he1 M.dne⟩
end
theorem errO_inst {X : Cx} {pins : List (Addr × Obj)} {σ : L2.St} {H : Hp} {s : Shared} {a C dd : Addr} {v : V} (I : Inv X pins σ H s) (h1 : H a = some (errO C dd a)) (h2 : H dd = some (.xd [(("at" : Str), v)])) : ∃ oe od u, PySem.W.InstAt s.heap a oe C (some od) ∧ PySem.W.lookIn "at" od = some (some u) ∧ RelV v u := by
  obtain ⟨oe, vs, g, c1, c2, c3⟩ := errO_at I.hok h1
  have hx : ObjOk X.prog X.w H s.heap dd (.xd [(("at" : Str), v)]) := I.hok dd _ h2
  obtain ⟨mA, hns, hr⟩ := hx
  obtain ⟨od, ho, hl⟩ := lookIn_ns hns
  obtain ⟨u, hu, ru⟩ := RelO.some_of (v := v) (o := mA "at") (by
    have := hr "at"
    rw [show List.lookup ("at" : Str) [(("at" : Str), v)] = some v by simp [List.lookup]] at this
    exact this)
  exact ⟨oe, od, u, ⟨g, c1, by unfold PySem.W.notCls; rw [c3] <;> rfl, by rw [c2]; exact ho⟩, by rw [hl, hu], ru⟩
/-- isinstance(e, c), e an error of ours -/
def rIsO (K : PySem.W.Frag) : List V → Hp → VK → Prop := fun xs H Q => ∃ (a C dd : Addr) (v c : V) (cv : Value) (b : Bool), xs = [.ref a, c] ∧ H a = some (errO C dd a) ∧ H dd = some (.xd [(("at" : Str), v)]) ∧ ExcC K C ∧ (∀ u, RelV c u → u = cv) ∧ PySem.W.kitOne K (.ref C) cv = some b ∧ Q (.bl b) H
theorem call_isO {X : Cx} : CallR X (.builtin "isinstance") (rIsO X.K) := by
  intro pins s σ H xs us Q I r h
  obtain ⟨a, C, dd, v, c, cv, b, rfl, h1, h2, E, hcv, e, q⟩ := h
  cases r with
  | cons rx rr =>
    cases rr with
    | cons rt rr =>
      cases rr
      cases rx
      have ec := hcv _ rt
      subst ec
      obtain ⟨oe, od, u, J, _⟩ := errO_inst I h1 h2
      have hcl : (PySem.W.clsIn X.K C).isSome = true := by
        obtain ⟨cd, hc, _⟩ := PySem.W.any_some E.hd
        rw [hc]; rfl
      exact PySem.W.kia_one (PySem.W.kitx_exc hcl E.hg E.hk E.hs E.ha E.hn E.ht E.hm) I.kIn J e (fun z => nomatch z) fun tk => ⟨.bl b, H, I.kept (t' := tk) fun _ _ z => z, rfl, q⟩
/-- e.at -/
def tAt (K : PySem.W.Frag) (te : TE) : TE := fun σ H Q => te σ H fun x H1 => ∃ (a C dd : Addr) (v : V), x = .ref a ∧ H1 a = some (errO C dd a) ∧ H1 dd = some (.xd [(("at" : Str), v)]) ∧ XfC K C ∧ PySem.W.findIn K (.ref C) "at" = some none ∧ Q v H1
theorem pe_at {X : Cx} {e : Expr} {te : TE} {pos : Pos} (he : PE X e te) (hb : attributeBase e "at" X.env (eval e X.env) = eval e X.env) : PE X (.Attribute e "at" pos) (tAt X.K te) := by
  refine ⟨fun pins s σ H Q I h => ?_⟩
  refine attr_of hb (thn (he.run pins s σ H _ I h) fun u s1 hh => ?_)
  obtain ⟨x, H1, I1, rx, a, C, dd, v, ex, h1, h2, T, hno, q⟩ := hh
  subst ex
  obtain rfl : u = Value.ref a := rx
  obtain ⟨oe, od, u, J, hl, ru⟩ := errO_inst I1 h1 h2
  exact HandSPX.exc_get I1.kIn J T.ga T.gg T.exC (PySem.W.findObj_own T.hdC hno rfl hl) (handed_of ru) ⟨v, H1, I1.tok _, ru, q⟩
section
variable {T : Tx} {rds : Nat → Nat} {N : List Str} {n : Nat}
theorem kit_of {K : PySem.W.Frag} {D fI C Cx : Addr} {b : Bool} (H : HCls K D fI C) (h : PySem.W.exmOne K (.ref C) (.ref Cx) = some b) : PySem.W.kitOne K (.ref C) (.ref Cx) = some b := by
  have h1 : PySem.W.kitCls K (.ref C) (.ref Cx) = some b := by
    unfold PySem.W.exmOne at h
    split at h
    · exact h
    · cases h
  unfold PySem.W.kitOne
  split
  · rename_i e
    have e : C = Cx := Value.ref.inj (beq_iff_eq.mp e)
    subst e
    unfold PySem.W.kitCls at h1
    dsimp only at h1
    split at h1
    · obtain ⟨nm, qn, N, bs, bm, sn, sub, ab, col, dd, k0, k1, k2, k3, k5, hC, _⟩ := H.cls
      have hcl : PySem.W.clsIn K C = some { name := nm, bases := bs, mro := .ref C :: bm, ns := N, qualname := qn, hasDict := true, slotNames := sn, subclasses := sub, abstract := ab, collection := col, hasDel := false } := by unfold PySem.W.clsIn; rw [hC] <;> rfl
      have h2 : PySem.W.mroIn K C (.ref C) = some b := h1
      unfold PySem.W.mroIn at h2
      rw [hcl] at h2
      simp at h2
      rw [h2]
    · cases h1
  · exact h1
theorem tCons_1 {K : PySem.W.Frag} {Y : Wd} {O : List SK} {e : C} {κ : OS} {σ : L2.St} {H : Hp} {Q : List V → Hp → Prop} (h : tD K Y O e κ σ H fun w H1 => Q [w] H1) : tCons (tD K Y O e κ) tNil σ H Q := h
theorem snd_mk {x : Str} {a : C} (h : Snd T rds N n a) : Snd T rds N n (.mk x a) := by
  have sh : ∀ {sc : Scope} {ex : Expr}, mE T N sc (.mk x a) ex = true → ∃ p y pos, ex = .Call (.Name x p) [y] [] pos ∧ T.eo = true ∧ isGlb (lk sc x) = true ∧ okName x = true ∧ T.cls.contains x = true ∧ mE T N sc a y = true ∧ notStar y = true := fun {sc ex} m => by
    unfold mE at m
    split at m
    · simp only [Bool.and_eq_true, decide_eq_true_eq] at m
      obtain ⟨⟨⟨⟨⟨⟨rfl, m1⟩, m2⟩, m3⟩, m4⟩, m5⟩, m6⟩ := m
      exact ⟨_, _, _, rfl, m1, m2, m3, m4, m5, m6⟩
    · cases m
  refine Snd.val (by intros; simp [mL]) (by intros; simp [mI]) (fun sc ex env m w => ?_) fun {Y X sc O κ ex} G m k => ?_
  · obtain ⟨p, y, pos, rfl, _⟩ := sh m
    rfl
  · obtain ⟨p, y, pos, rfl, m1, m2, m3, m4, m5, m6⟩ := sh m
    simp only [kE] at k
    split at k
    · rename_i hl
      cases k
      obtain ⟨κa, ka, _⟩ := live_some hl
      have ne : T.cls ≠ [] := by
        intro z
        rw [z] at m4
        cases m4
      obtain ⟨D0, fI, F, all⟩ := G.hl.fn ne
      obtain ⟨C, hcl, hm, HC, _⟩ := all x m4
      obtain ⟨hk, _⟩ := G.hl.kx m1 x C m4 hcl
      have star : starEach [y] X.env = [(false, eval y X.env)] := star_off m6
      refine PE.imp (pe_mkE F HC (by have := G.room.dp; omega) (pa_cons (h.e G m5 ka) pa_nil star) (G.gl _ m2) hm (G.hl.sup ne) (okName3 m3).1 star) fun σ H Q ⟨B, ρ, fs, F', S, h⟩ => ?_
      simp only [evE] at h
      obtain ⟨h1, h2, h3⟩ := h.bind
      refine tCons_1 ⟨B, ρ, fs, F', S, Out.opnd h1 h2 fun d hd v B1 H1 l1 o1 q1 => ⟨v, rfl, fun dd e nd ne2 hne => ?_⟩⟩
      have g := (h3 d hd).mono l1
      cases d with
      | int i =>
        have ev := q1.int_inv
        subst ev
        have o2 := o1.new nd (.xd [(("at" : Str), V.int i)])
        have nb : B1 dd = none := (o1.free nd).1
        have ne3 : upd H1 dd (.xd [(("at" : Str), V.int i)]) e = none := by rw [upd_ne (Ne.symm hne)]; exact ne2
        have o3 := o2.new ne3 (errO C dd e)
        have nb2 : upd B1 dd (.xd [(("at" : Str), V.int i)]) e = none := (o2.free ne3).1
        refine g (.ref e) _ [] _ ((le_new nb _).trans (le_new nb2 _)) o3 ⟨rfl, .er upd_same ?_ hk⟩
        rw [upd_ne hne, upd_same]
      | _ => exact False.elim g
    · cases k
/-- the error that is looked at, and its class -/
theorem er_cls {Y : Wd} {X : Cx} {sc : Scope} (G : Good T rds Y N n sc X) (eo : T.eo = true) {H : Hp} {v : V} {d : D} {c : Str} {i : Int} (he : errOf d = some (c, i)) (q : Dq X.K H v d) : ∃ a C dd, v = .ref a ∧ H a = some (errO C dd a) ∧ H dd = some (.xd [(("at" : Str), V.int i)]) ∧ clK X.K c = some C ∧
    (T.cls.contains c = true → ∃ D0 fI, Y.cl c = some C ∧ HCls X.K D0 fI C ∧ XfC X.K C ∧ ExcC X.K C) := by
  rw [errOf_some he] at q
  obtain ⟨a, C, dd, e1, h1, h2, h3⟩ := q.er_inv
  refine ⟨a, C, dd, e1, h1, h2, h3, fun hc => ?_⟩
  have ne : T.cls ≠ [] := by
    intro z
    rw [z] at hc
    cases hc
  obtain ⟨D0, fI, F, all⟩ := G.hl.fn ne
  obtain ⟨C', hcl, hm, HC, xf⟩ := all c hc
  obtain ⟨hk, ec⟩ := G.hl.kx eo c C' hc hcl
  rw [h3] at hk
  cases hk
  exact ⟨D0, fI, hcl, HC, xf, ec⟩
theorem snd_isE {z : Str} {cs : List Str} {a : C} (h : Snd T rds N n a) : Snd T rds N n (.isE z cs a) := by
  have sh : ∀ {sc : Scope} {ex : Expr}, mE T N sc (.isE z cs a) ex = true → ∃ p y q pos, ex = .Call (.Name "isinstance" p) [y, .Name z q] [] pos ∧ T.eo = true ∧ bltOk T sc "isinstance" = true ∧ (if z = ("ValueError" : Str) then bltOk T sc z else isGlb (lk sc z) && okName z && T.cls.contains z) = true ∧ cs = T.cls ∧ mE T N sc a y = true ∧ notStar y = true := fun {sc ex} m => by
    unfold mE at m
    split at m
    · simp only [Bool.and_eq_true, decide_eq_true_eq] at m
      obtain ⟨⟨⟨⟨⟨⟨⟨rfl, m1⟩, m2⟩, rfl⟩, m3⟩, m4⟩, m5⟩, m6⟩ := m
      exact ⟨_, _, _, _, rfl, m1, m2, m3, m4, m5, m6⟩
    · cases m
  refine Snd.val (by intros; simp [mL]) (by intros; simp [mI]) (fun sc ex env m w => ?_) fun {Y X sc O κ ex} G m k => ?_
  · obtain ⟨p, y, q, pos, rfl, _⟩ := sh m
    rfl
  · obtain ⟨p, y, q, pos, rfl, m1, m2, m3, m4, m5, m6⟩ := sh m
    simp only [kE] at k
    split at k
    · rename_i hl
      cases k
      obtain ⟨κa, ka, _⟩ := live_some hl
      obtain ⟨g1, g2, g3⟩ := bltOk3 m2
      have o1 := okName3 g2
      have s1 : starEach [y, .Name z q] X.env = (false, eval y X.env) :: starEach [.Name z q] X.env := star_off m6
      -- the class that is asked for
      obtain ⟨cv, u, hT, hu, hb⟩ : ∃ (cv : V) (u : Value), PE X (.Name z q) (tC cv) ∧ (∀ w, RelV cv w → w = u) ∧ ∀ {c : Str} {C D0 fI : Addr}, T.cls.contains c = true → Y.cl c = some C → HCls X.K D0 fI C → PySem.W.kitOne X.K (.ref C) u = some (exm z c || decide (z = ("ValueError" : Str))) := by
        by_cases hz : z = ("ValueError" : Str)
        · subst hz
          rw [if_pos rfl] at m3
          obtain ⟨t1, t2, t3⟩ := bltOk3 m3
          have o2 := okName3 t2
          refine ⟨.ty "ValueError", .type "ValueError", pe_bltn (v := .ty "ValueError") (G.gl _ t1) (G.bl _ t3) (by first | rfl | kernel_rfl) rfl o2.2.2 o2.1, fun w r => r, fun {c C D0 fI} hc hcl HC => ?_⟩
          rw [show (exm ("ValueError" : Str) c || decide (("ValueError" : Str) = ("ValueError" : Str))) = true by simp]
          unfold PySem.W.kitOne PySem.W.kitCls
          rw [if_neg (by simp)]
          show (if PySem.W.kitMeta "ValueError" = true then PySem.W.subIn X.K (.ref C) (.type "ValueError") else none) = some true
          rw [if_pos (by decide +kernel)]
          exact HC.veC
        · rw [if_neg hz] at m3
          simp only [Bool.and_eq_true] at m3
          obtain ⟨⟨t1, t2⟩, t3⟩ := m3
          have ne : T.cls ≠ [] := by
            intro w
            rw [w] at t3
            cases t3
          obtain ⟨D1, fI1, F1, all⟩ := G.hl.fn ne
          obtain ⟨Cx, hclx, hmx, _, _⟩ := all z t3
          refine ⟨.ref Cx, .ref Cx, pe_glob (v := .ref Cx) (G.gl _ t1) hmx rfl (okName3 t2).1, fun w r => r, fun {c C D0 fI} hc hcl HC => ?_⟩
          rw [show (exm z c || decide (z = ("ValueError" : Str))) = exm z c by rw [decide_eq_false hz, Bool.or_false]]
          exact kit_of HC (G.hl.ex c z hc t3 C Cx hcl hclx)
      refine PE.imp (pe_callB call_isO (G.gl _ g1) (G.bl _ g3) (by first | rfl | kernel_rfl) (pa_cons (h.e G m5 ka) (pa_cons hT pa_nil) s1) o1.2.2 o1.1 s1 rfl) fun σ H Q ⟨B, ρ, fs, F, S, h⟩ => ?_
      simp only [evE] at h
      obtain ⟨h1, h2, h3⟩ := h.bind
      refine ⟨B, ρ, fs, F, S, Out.opnd h1 h2 fun d hd v B1 H1 l1 o1 q1 => ?_⟩
      have g := (h3 d hd).mono l1
      cases he : errOf d with
      | none => rw [he] at g; exact g.elim
      | some p =>
        obtain ⟨c, i⟩ := p
        rw [he] at g
        obtain ⟨e1, g⟩ := Out.guard g
        obtain ⟨a', C, dd, rfl, ha, hdd, _, hC⟩ := er_cls G m1 he (q1.dq o1.le)
        have hc : T.cls.contains c = true := by rw [← m4]; exact e1
        obtain ⟨D0, fI, hcl, HC, xf, ec⟩ := hC hc
        exact ⟨a', C, dd, _, cv, u, _, rfl, ha, hdd, ec, hu, hb hc hcl HC, Out.leaf g o1 (.bl _) rfl⟩
    · cases k
theorem snd_att {cs : List Str} {a : C} (h : Snd T rds N n a) : Snd T rds N n (.att cs a) := by
  have sh : ∀ {sc : Scope} {ex : Expr}, mE T N sc (.att cs a) ex = true → ∃ y pos, ex = .Attribute y "at" pos ∧ T.eo = true ∧ attOk y = true ∧ cs = T.cls ∧ mE T N sc a y = true := fun {sc ex} m => by
    unfold mE at m
    split at m
    · simp only [Bool.and_eq_true, decide_eq_true_eq] at m
      obtain ⟨⟨⟨⟨rfl, m1⟩, m2⟩, m4⟩, m3⟩ := m
      exact ⟨_, _, rfl, m1, m2, m4, m3⟩
    · cases m
  refine Snd.val (by intros; simp [mL]) (by intros; simp [mI]) (fun sc ex env m w => ?_) fun {Y X sc O κ ex} G m k => ?_
  · obtain ⟨y, pos, rfl, _⟩ := sh m
    rfl
  · obtain ⟨y, pos, rfl, m1, m2, m4, m3⟩ := sh m
    simp only [kE] at k
    split at k
    · rename_i hl
      cases k
      obtain ⟨κa, ka, _⟩ := live_some hl
      have hb : attributeBase y "at" X.env (eval y X.env) = eval y X.env := by cases y <;> first | rfl | (simp [attOk] at m2)
      refine PE.imp (pe_at (h.e G m3 ka) hb) fun σ H Q ⟨B, ρ, fs, F, S, h⟩ => ?_
      simp only [evE] at h
      obtain ⟨h1, h2, h3⟩ := h.bind
      refine ⟨B, ρ, fs, F, S, Out.opnd h1 h2 fun d hd v B1 H1 l1 o1 q1 => ?_⟩
      have g := (h3 d hd).mono l1
      cases he : errOf d with
      | none => rw [he] at g; exact g.elim
      | some p =>
        obtain ⟨c, i⟩ := p
        rw [he] at g
        obtain ⟨e1, g⟩ := Out.guard g
        obtain ⟨a', C, dd, rfl, ha, hdd, _, hC⟩ := er_cls G m1 he (q1.dq o1.le)
        have hc : T.cls.contains c = true := by rw [← m4]; exact e1
        obtain ⟨D0, fI, hcl, HC, xf, ec⟩ := hC hc
        exact ⟨a', C, dd, _, rfl, ha, hdd, xf, HC.noN, Out.leaf g o1 (.int _) rfl⟩
    · cases k
end
end DL
set_option Elab.async false
set_option linter.all false
set_option maxRecDepth 100000
set_option maxHeartbeats 4000000
namespace DL
open PySem PySem.Spec PyProof.Rows L2
section
variable {T : Tx} {rds : Nat → Nat} {N : List Str} {n : Nat}
theorem snd_nil : Snd T rds N n .nil := by
  refine ⟨fun G m k => by simp [mE] at m, fun G m k => by simp [mE] at m, fun {Y X sc O r es} G m k => ?_, fun {Y X sc O ks es} G m k => ?_, fun G m k => by simp [kM] at k, fun G m k => by simp [kM] at k, fun G m k _ => by simp [mI] at m⟩
  · cases es with
    | nil => exact ao_nil
    | cons => simp [mL] at m
  · cases es with
    | nil => simp only [kL, Option.some.injEq] at k; subst k; exact ar_nil
    | cons => simp [mL] at m
theorem snd_cons {a as : C} (ha : Snd T rds N n a) (hs : Snd T rds N n as) : Snd T rds N n (.cons a as) := by
  refine ⟨fun G m k => by simp [mE] at m, fun G m k => by simp [mE] at m, fun {Y X sc O r es} G m k => ?_, fun {Y X sc O ks es} G m k => ?_, fun {Y X sc O κ es pos} G m k => ?_, fun {Y X sc O κ es pos} G m k => ?_, fun G m k _ => by simp [mI] at m⟩
  · cases es with
    | nil => simp [mL] at m
    | cons e es =>
      simp only [mL, Bool.and_eq_true] at m
      simp only [kDs] at k
      split at k
      · rename_i r1 m1 e1 e2
        cases k
        exact ao_cons (Nat.min_le_left _ _) (Nat.min_le_right _ _) (star_off m.1.2) (ha.e G m.1.1 e1) (hs.l G m.2 e2)
      · cases k
  · cases es with
    | nil => simp [mL] at m
    | cons e es =>
      simp only [mL, Bool.and_eq_true] at m
      simp only [kL] at k
      split at k
      · rename_i ks e2
        split at k
        · rename_i c
          cases k
          obtain ⟨κ, e1, _⟩ := live_some c
          rw [e1]
          exact ar_cons (star_off m.1.2) (ha.e G m.1.1 e1) (hs.r G m.2 e2)
        · cases k
      · cases k
  · cases es with
    | nil => simp [mL] at m
    | cons e es =>
      simp only [mL, Bool.and_eq_true] at m
      simp only [kM] at k
      cases hn : isNil as with
      | true =>
        rw [hn, if_pos rfl] at k
        have e0 : as = .nil := by cases as <;> first | rfl | (simp [isNil] at hn)
        subst e0
        cases es with
        | nil => exact ⟨sa_one (ha.e G m.1.1 k), ta_one (ha.t G m.1.1 k)⟩
        | cons => simp [mL] at m
      | false =>
        rw [hn, if_neg Bool.false_ne_true] at k
        split at k
        · rename_i x y e1 e2
          cases es with
          | nil =>
            exfalso
            cases as <;> first | (simp [isNil] at hn; done) | (simp [mL] at m)
          | cons e2' es =>
            obtain ⟨h1, h2⟩ := hs.a (pos := pos) G m.2 e2
            exact ⟨sa_cons hn (ha.e G m.1.1 e1) h1 k, ta_cons hn (ha.t G m.1.1 e1) h2⟩
        · cases k
  · cases es with
    | nil => simp [mL] at m
    | cons e es =>
      simp only [mL, Bool.and_eq_true] at m
      simp only [kM] at k
      cases hn : isNil as with
      | true =>
        rw [hn, if_pos rfl] at k
        have e0 : as = .nil := by cases as <;> first | rfl | (simp [isNil] at hn)
        subst e0
        cases es with
        | nil => exact ⟨so_one (ha.e G m.1.1 k), to_one (ha.t G m.1.1 k)⟩
        | cons => simp [mL] at m
      | false =>
        rw [hn, if_neg Bool.false_ne_true] at k
        split at k
        · rename_i x y e1 e2
          cases es with
          | nil =>
            exfalso
            cases as <;> first | (simp [isNil] at hn; done) | (simp [mL] at m)
          | cons e2' es =>
            obtain ⟨h1, h2⟩ := hs.o (pos := pos) G m.2 e2
            exact ⟨so_cons hn (ha.e G m.1.1 e1) h1 k, to_cons hn (ha.t G m.1.1 e1) h2⟩
        · cases k
/-- a code that is a walk alone -/
theorem Snd.it {c : C} (he : ∀ sc ex, mE T N sc c ex = false) (hl : ∀ sc es, mL T N sc c es = false)
    (i : ∀ {Y : Wd} {X : Cx} {sc : Scope} {O : List SK} {κ : OS} {tg it : Expr}, Good T rds Y N n sc X → mI T N sc c it = true → kI rds O c = some κ → (needT c = true → ∃ es k p, tg = .Tuple es k p) → PI X tg it (tI X.K Y O c κ (frI rds O c))) : Snd T rds N n c :=
  ⟨(fun _ m _ => by rw [he] at m; cases m), (fun _ m _ => by rw [he] at m; cases m), (fun _ m _ => by rw [hl] at m; cases m), (fun _ m _ => by rw [hl] at m; cases m), (fun _ m _ => by rw [hl] at m; cases m), (fun _ m _ => by rw [hl] at m; cases m), i⟩
theorem snd_itv {a : C} (ha : Snd T rds N n a) : Snd T rds N n (.itv a) :=
  Snd.it (by intros; simp [mE]) (by intros; simp [mL]) fun {Y X sc O κ tg it} G m k _ => by
    simp only [mI, Bool.and_eq_true] at m
    simp only [kI] at k
    obtain ⟨κ0, e0, nd, rfl⟩ := itemK_some k
    simp only [frI, e0]
    exact si_itv nd (ha.e G m.1 e0)
theorem snd_rng1 {a : C} (ha : Snd T rds N n a) : Snd T rds N n (.rng1 a) :=
  Snd.it (by intros; simp [mE]) (by intros; simp [mL]) fun {Y X sc O κ tg it} G m k _ => by
    unfold mI at m
    split at m
    · simp only [Bool.and_eq_true, decide_eq_true_eq] at m
      obtain ⟨⟨⟨rfl, m1⟩, m2⟩, m3⟩ := m
      obtain ⟨h1, h2, h3⟩ := bltOk3 m1
      simp only [kI] at k
      split at k
      · rename_i c
        cases k
        obtain ⟨κ0, e0, _⟩ := live_some c
        exact si_rng1 rfl (G.gl _ h1) (G.bl _ h3) m3 (ha.e G m2 e0)
      · cases k
    · cases m
theorem snd_enm {a : C} (ha : Snd T rds N n a) : Snd T rds N n (.enm a) :=
  Snd.it (by intros; simp [mE]) (by intros; simp [mL]) fun {Y X sc O κ tg it} G m k ht => by
    obtain ⟨es, kk, p, rfl⟩ := ht rfl
    unfold mI at m
    split at m
    · simp only [Bool.and_eq_true, decide_eq_true_eq] at m
      obtain ⟨⟨⟨rfl, m1⟩, m2⟩, m3⟩ := m
      obtain ⟨h1, h2, h3⟩ := bltOk3 m1
      simp only [kI] at k
      split at k
      · rename_i c
        cases k
        obtain ⟨κ0, e0, _⟩ := flat_some c
        rw [e0] at c
        simp only [frI, e0]
        exact si_enm rfl c (G.gl _ h1) (G.bl _ h3) m3 (ha.e G m2 e0)
      · cases k
    · cases m
theorem kI_kind {O : List SK} {c : C} {κ : OS} (h : kI rds O c = some κ) : κ = .own 0 ∨ ∃ b, κ = .bor b := by
  have it : ∀ {k : Option OS} {κ : OS}, itemK k = some κ → κ = .own 0 ∨ ∃ b, κ = .bor b := fun {k κ} h => by
    obtain ⟨κ0, _, _, rfl⟩ := itemK_some h
    cases κ0 with
    | own m => exact .inl rfl
    | bor b =>
      simp only [itK]
      split
      · exact .inl rfl
      · exact .inr ⟨_, rfl⟩
    | dead => exact absurd rfl (by assumption)
  cases c <;> try (simp [kI] at h; done)
  · exact it (by simpa only [kI] using h)
  all_goals
    simp only [kI] at h
    split at h
    · cases h; exact .inl rfl
    · cases h
theorem mI_set {sc : Scope} {c : C} {it : Expr} (m : mI T N sc c it = true) : notSet it = true := by
  cases it <;> first | rfl | (cases c <;> simp [mI, notSet] at m)
theorem isTp_tup {sc : Scope} {t : Tg} {tg : Expr} (h : isTp t = true) (m : mT N sc t tg = true) : ∃ es k p, tg = .Tuple es k p := by
  cases t <;> try (simp [isTp] at h; done)
  cases tg <;> first | exact ⟨_, _, _, rfl⟩ | (simp [mT] at m)
theorem own_map (own : List Nat) : (own.map fun i => (N.getD i "", i)).map (·.2) = own := by
  induction own with
  | nil => rfl
  | cons a l ih => simp only [List.map_cons, ih]
/-- the parts of a comprehension -/
structure LcM (T : Tx) (N : List Str) (sc : Scope) (elt : C) (t : Tg) (it cond : C) (own : List Nat) (x tg iter : Expr) (ifs : List Expr) (sc2 : Scope) : Prop where
  b : blkC N sc sc2 (own.map fun i => (N.getD i "", i)) = true
  tt : mT N sc2 t tg = true
  s : ∀ i ∈ slT t, i ∈ own
  n : needT it = true → ∃ es k p, tg = .Tuple es k p
  i : mI T N sc it iter = true
  x : mE T N sc2 elt x = true
  c : (ifs = [] ∧ isOff cond = true) ∨ ∃ y, ifs = [y] ∧ isOff cond = false ∧ mE T N sc2 cond y = true
theorem cdOk_by {off : Bool} {r : Expr → Bool} {ifs : List Expr} (h : cdOk off r ifs = true) : (ifs = [] ∧ off = true) ∨ ∃ y, ifs = [y] ∧ off = false ∧ r y = true := by
  cases ifs with
  | nil => exact .inl ⟨rfl, h⟩
  | cons y ys =>
    cases ys with
    | nil =>
      simp only [cdOk, Bool.and_eq_true, Bool.not_eq_true'] at h
      exact .inr ⟨y, rfl, h.1, h.2⟩
    | cons _ _ => simp [cdOk] at h
theorem lc_shape {elt : C} {t : Tg} {it cond : C} {own : List Nat} {sc : Scope} {ex : Expr} (m : mE T N sc (.lc elt t it cond own) ex = true) : ∃ x tg iter ifs sc2 pos, ex = .ListComp x [⟨tg, iter, ifs, 0⟩] sc2 pos ∧ LcM T N sc elt t it cond own x tg iter ifs sc2 := by
  unfold mE at m
  split at m
  · simp only [Bool.and_eq_true] at m
    obtain ⟨⟨⟨⟨⟨⟨m1, m2⟩, m3⟩, m4⟩, m5⟩, m6⟩, m7⟩ := m
    refine ⟨_, _, _, _, _, _, rfl, m1, m2, fun i hi => ?_, fun hn => ?_, m5, m6, ?_⟩
    · have := List.all_eq_true.mp m3 i hi
      simpa using this
    · rw [hn] at m4
      exact isTp_tup (by simpa using m4) m2
    · exact cdOk_by m7
  · cases m
/-- what a comprehension's kind tells of its parts -/
theorem lc_kind {O : List SK} {elt : C} {t : Tg} {it cond : C} {own : List Nat} {κ : OS} (k : kE rds O (.lc elt t it cond own) = some κ) : ∃ κi r, κ = .own (r + 1) ∧ kI rds O it = some κi ∧ (isOff cond = true ∨ ∃ κc, kE rds (kT t κi (wipeO O own)) cond = some κc) ∧ kE rds (kT t κi (wipeO O own)) elt = some (.own r) := by
  simp only [kE] at k
  split at k
  · rename_i κi ei
    split at k
    · rename_i hc
      split at k
      · rename_i r er
        cases k
        refine ⟨κi, r, rfl, ei, ?_, er⟩
        rcases Bool.or_eq_true _ _ ▸ hc with hc | hc
        · exact .inl hc
        · obtain ⟨κc, e, _⟩ := live_some hc
          exact .inr ⟨κc, e⟩
      · cases k
    · cases k
  · cases k
/-- the parts of a comprehension, each in its place -/
structure LcP (X : Cx) (Y : Wd) (O : List SK) (elt : C) (t : Tg) (it cond : C) (own : List Nat) (x tg iter : Expr) (ifs : List Expr) (sc2 : Scope) (κi : OS) (fr : Bool) (r : Nat) : Prop where
  hi : PI X tg iter (tI X.K Y O it κi fr)
  hg : ∀ (s : Shared) (H : Hp) (C : Addr) (cl : List (Str × Addr)) (fp : List Addr), PG (X.blk s H sc2 (compEnvC sc2 cl C X.env) fp) tg (tTg X.K (wipeO O own) t κi)
  ht : ∀ (s : Shared) (H : Hp) (C : Addr) (cl : List (Str × Addr)) (fp : List Addr), PTs (X.blk s H sc2 (compEnvC sc2 cl C X.env) fp) ifs (tCd X.K Y.in (kT t κi (wipeO O own)) cond)
  he : ∀ (s : Shared) (H : Hp) (C : Addr) (cl : List (Str × Addr)) (fp : List Addr), PE (X.blk s H sc2 (compEnvC sc2 cl C X.env) fp) x (tD X.K Y.in (kT t κi (wipeO O own)) elt (.own r))
theorem lc_parts {Y : Wd} {X : Cx} {sc : Scope} {O : List SK} {elt : C} {t : Tg} {it cond : C} {own : List Nat} {x tg iter : Expr} {ifs : List Expr} {sc2 : Scope} {κi : OS} {r : Nat} (he : Snd T rds N n elt) (hi : Snd T rds N n it) (hc : Snd T rds N n cond)
    (G : Good T rds Y N n sc X) (M : LcM T N sc elt t it cond own x tg iter ifs sc2) (ki : kI rds O it = some κi) (kc : isOff cond = true ∨ ∃ κc, kE rds (kT t κi (wipeO O own)) cond = some κc) (kr : kE rds (kT t κi (wipeO O own)) elt = some (.own r)) :
    LcP X Y O elt t it cond own x tg iter ifs sc2 κi (frI rds O it) r := by
  refine ⟨hi.i G M.i ki M.n, fun s H C cl fp => ?_, fun s H C cl fp => ?_, fun s H C cl fp => ?_⟩
  · have G' := G.blk M.b s H C cl fp
    exact sg_all G'.hN G'.nd G'.calm G'.lc t tg _ _ M.tt
  · have G' := G.blk M.b s H C cl fp
    rcases M.c with ⟨rfl, h⟩ | ⟨y, rfl, h1, h2⟩
    · have e : cond = .none_ := by cases cond <;> first | rfl | (simp [isOff] at h)
      subst e
      exact cd_off
    · rcases kc with h | ⟨κc, h⟩
      · rw [h1] at h; cases h
      · exact cd_on h1 (hc.t G' h2 h)
  · exact he.e (G.blk M.b s H C cl fp) M.x kr
theorem snd_lc {elt : C} {t : Tg} {it cond : C} {own : List Nat} (he : Snd T rds N n elt) (hi : Snd T rds N n it) (hc : Snd T rds N n cond) : Snd T rds N n (.lc elt t it cond own) := by
  refine Snd.val (by intros; simp [mL]) (by intros; simp [mI]) (fun sc ex env m w => ?_) fun {Y X sc O κ ex} G m k => ?_
  · obtain ⟨x, tg, iter, ifs, sc2, pos, rfl, _⟩ := lc_shape m
    rfl
  · obtain ⟨x, tg, iter, ifs, sc2, pos, rfl, M⟩ := lc_shape m
    obtain ⟨κi, r, rfl, ki, kc, kr⟩ := lc_kind k
    have P := lc_parts he hi hc G M ki kc kr
    have q := pe_lc (pos := pos) G.calm (by rw [G.hN]; exact G.nd) P.hi (G.blkOk M.b) P.hg P.ht P.he (fold_ok (mI_set M.i))
    rw [own_map] at q
    exact PE.imp q fun σ H Q h => lc_read (kI_kind ki) M.s h
theorem snd_all : ∀ c : C, Snd T rds N n c
  | .var i => snd_var i
  | .cI i => snd_cI i
  | .cB i => snd_cB i
  | .cS i => snd_cS i
  | .cN => snd_cN
  | .gI y i => snd_gI y i
  | .bin _ a b => snd_bin (snd_all a) (snd_all b)
  | .neg a => snd_neg (snd_all a)
  | .not a => snd_not (snd_all a)
  | .and a => snd_and (snd_all a)
  | .or a => snd_or (snd_all a)
  | .cmp _ a b => snd_cmp (snd_all a) (snd_all b)
  | .chn _ _ a b c => snd_chn (snd_all a) (snd_all b) (snd_all c)
  | .nil => snd_nil
  | .cons a b => snd_cons (snd_all a) (snd_all b)
  | .tup a => snd_tup (snd_all a)
  | .lst a => snd_lst (snd_all a)
  | .ix a b => snd_ix (snd_all a) (snd_all b)
  | .none_ => snd_none
  | .call _ a => snd_call (snd_all a)
  | .callS _ a => snd_callS (snd_all a)
  | .bi _ a => snd_bi (snd_all a)
  | .lc a _ b c _ => snd_lc (snd_all a) (snd_all b) (snd_all c)
  | .isi _ a => snd_isi (snd_all a)
  | .mk _ a => snd_mk (snd_all a)
  | .isE _ _ a => snd_isE (snd_all a)
  | .att _ a => snd_att (snd_all a)
  | .itv a => snd_itv (snd_all a)
  | .rng1 a => snd_rng1 (snd_all a)
  | .enm a => snd_enm (snd_all a)
end
end DL
set_option Elab.async false
set_option linter.all false
set_option maxRecDepth 100000
set_option maxHeartbeats 1000000
namespace DL
open PySem PySem.Spec PyProof.Rows L2
def isComp : Expr → Bool
  | .ListComp .. => true
  | .SetComp .. => true
  | .DictComp .. => true
  | _ => false
/-- may a comprehension's value go straight to the name? -/
def swOk (sc : Scope) (x : Str) (l : Nat) : Expr → Bool
  | .ListComp _ _ s p => !isLoc (lk sc x) || (isLoc (lk sc x) && l == p.line && !(s.names.any fun (n, k) => n == x && (k == .local || k == .cell)))
  | e => !isComp e
def notTup : Expr → Bool
  | .Tuple .. => false
  | _ => true
def notNm (sc : Scope) : Expr → Bool
  | .Name x _ => !isLoc (lk sc x)
  | _ => true
def inTup (sc : Scope) : Expr → Bool
  | .Tuple es _ _ => es.any (notNm sc)
  | _ => false
section
variable (T : Tx) (N : List Str)
def mName (sc : Scope) (i : Nat) (e : Expr) : Bool := match e with
  | .Name x _ => decide (N[i]? = some x) && isVis (lk sc x) && okName x
  | _ => false
/-- what a clause returns -/
def mHE (n : Str) : HE → Expr → Bool
  | .at_, e => match e with
    | .Attribute (.Name y _) f _ => decide (y = n) && decide (f = "at")
    | _ => false
  | .tupS s, e => match e with
    | .Tuple [.Constant (.str z) _ _, .Attribute (.Name y _) f _] _ _ => decide (z = s) && decide (y = n) && decide (f = "at")
    | _ => false
  | .obj, e => match e with
    | .Name y _ => decide (y = n)
    | _ => false
def mH1 (sc : Scope) (p : Str × Nat × HE) (h : ExceptHandler) : Bool := match h with
  | .ExceptHandler (some (.Name y _)) (some n) [.Return (some v) _] _ => (match p.2.2 with | .obj => T.eo | _ => true) && decide (y = p.1) && isGlb (lk sc y) && okName y && T.cls.contains y && decide (N[p.2.1]? = some n) && isLoc (lk sc n) && okName n && mHE n p.2.2 v
  | _ => false
def mH (sc : Scope) : List (Str × Nat × HE) → List ExceptHandler → Bool
  | [], [] => true
  | p :: r, h :: hs => mH1 T N sc p h && mH sc r hs
  | _, _ => false
mutual
def mS (sc : Scope) : S → Stmt → Bool
  | .asg t e, st => match st with
    | .Assign [tg] v p => mE T N sc e v && mT N sc t tg && (match t, tg with
      | .nm _, .Name x q => swOk sc x q.line v
      | .tp _, _ => notTup v || inTup sc tg
      | _, _ => false)
    | _ => false
  | .app i e, st => match st with
    | .Expr (.Call (.Attribute o m ap) [v] [] cp) _ => mName N sc i o && decide (m = "append") && ap.endLine == cp.line && mE T N sc e v && notStar v
    | _ => false
  | .ife c a b, st => match st with
    | .If x p q _ => mE T N sc c x && mB sc a p && mB sc b q
    | _ => false
  | .for_ t it b, st => match st with
    | .For tg iter body [] _ => mT N sc t tg && (!needT it || isTp t) && mI T N sc it iter && mB sc b body
    | _ => false
  | .ret e, st => match st with
    | .Return (some v) _ => mE T N sc e v
    | _ => false
  | .retN, st => match st with
    | .Return none _ => true
    | _ => false
  | .brk, st => match st with
    | .Break _ => true
    | _ => false
  | .cnt, st => match st with
    | .Continue _ => true
    | _ => false
  | .pas, st => match st with
    | .Pass _ => true
    | _ => false
  | .expr e, st => match st with
    | .Expr v _ => mE T N sc e v && !isComp v
    | _ => false
  | .nev, _ => true
  | .rse x e, st => match st with
    | .Raise (some (.Call (.Name y _) [v] [] _)) none _ => decide (y = x) && isGlb (lk sc y) && okName y && T.cls.contains y && mE T N sc e v && notStar v
    | _ => false
  | .try_ b hs, st => match st with
    | .Try body (h :: hds) [] [] _ => mB sc b body && mH T N sc hs (h :: hds)
    | _ => false
  | .nil, _ => false
  | .seq _ _, _ => false
  | .fgt _, _ => false
  | .frz _ _, _ => false
def mB (sc : Scope) : S → List Stmt → Bool
  | .nil, sts => match sts with
    | [] => true
    | _ => false
  | .seq a b, sts => match a with
    | .fgt _ => mB sc b sts
    | .frz _ _ => mB sc b sts
    | a => match sts with
      | st :: sts => mS sc a st && mB sc b sts
      | [] => false
  | .nev, _ => true
  | _, _ => false
end
end
def wkO : List SK → List SK → Bool
  | [], [] => true
  | a :: as, b :: bs => wkS a b && wkO as bs
  | _, _ => false
def ownS : Option SK → Bool
  | some (.e (.own _)) => true
  | _ => false
/-- who lends owns -/
def lentOk (O : List SK) : Bool := O.all fun k => match k with
  | .lent _ o => ownS O[o]?
  | _ => true
def wkA (O O' : List SK) : Bool := wkO O O' && lentOk O'
def meet0 : List SK → List SK → List SK
  | a :: as, b :: bs => meetS a b :: meet0 as bs
  | _, _ => []
def fixL (O : List SK) : List SK := O.map fun k => match k with
  | .lent b o => if ownS O[o]? then .lent b o else .e .dead
  | k => k
def meetO (a b : List SK) : List SK := fixL (meet0 a b)
def frz1 (n : Nat) : SK → SK
  | .e (.own m) => .e (.own (min m n))
  | o => o
def frzO (n : Nat) (O : List SK) : List Nat → List SK
  | [] => O
  | v :: vs => match (frzO n O vs)[v]? with
    | some o => (frzO n O vs).set v (frz1 n o)
    | none => frzO n O vs
def kill1 : SK → SK
  | .e (.bor _) => .e .dead
  | o => o
def killB (O : List SK) : List SK := O.map kill1
section
variable (rds : Nat → Nat) (rd : Nat)
def mergeF : Option (List SK) → Option (List SK) → Option (Option (List SK))
  | none, x => some x
  | some a, none => some (some a)
  | some a, some b => if wkA a (meetO a b) && wkA b (meetO a b) then some (some (meetO a b)) else none
/-- what falls through, and the kinds at the jumps -/
def joinF : Option (List SK) → Option (List SK) → Option (List SK)
  | none, x => x
  | x, none => x
  | some a, some b => some (meetO a b)
def meets (I : List SK) : List (List SK) → List SK
  | [] => I
  | a :: as => meets (meetO I a) as
def stoK (O : List SK) (i n : Nat) (κ : Option OS) : Option (List SK) := match O[i]?, κ with
  | some (.e (.own m)), some (.own r) => if n < m && lentOk O then some (killB (unlO i (O.set i (.e (.own (min m (r + n + 1))))))) else none
  | _, _ => none
def infS : S → List SK → Option (List SK) × List (List SK)
  | .nil, O => (some O, [])
  | .seq a b, O => match infS a O with
    | (some O1, js) => (match infS b O1 with
      | (r, ks) => (r, js ++ ks))
    | (none, js) => (none, js)
  | .fgt l, O => (some (wipeO O l), [])
  | .frz n l, O => (some (frzO n O l), [])
  | .asg t e, O => (some (kT t ((kE rds O e).getD .dead) O), [])
  | .app i e, O => (some ((stoK O i 0 (kE rds O e)).getD O), [])
  | .ife _ a b, O => match infS a O, infS b O with
    | (x, js), (y, ks) => (joinF x y, js ++ ks)
  | .for_ t it b, O => (some ([0, 1, 2].foldl (fun I _ => match infS b (kT t ((kI rds I it).getD .dead) I) with
    | (r, js) => meets I (r.toList ++ js)) O), [])
  | .ret _, _ => (none, [])
  | .retN, _ => (none, [])
  | .brk, O => (none, [O])
  | .cnt, O => (none, [O])
  | .pas, O => (some O, [])
  | .nev, _ => (none, [])
  | .rse _ _, _ => (none, [])
  | .try_ b _, O => infS b O
  | .expr _, O => (some O, [])
def invF (t : Tg) (it : C) (b : S) (O : List SK) : List SK := [0, 1, 2].foldl (fun I _ => match infS rds b (kT t ((kI rds I it).getD .dead) I) with
    | (r, js) => meets I (r.toList ++ js)) O
def backTo? (I : List SK) : Option (List SK) → Bool
  | none => true
  | some O => wkA O I
def chkS (lp : Option (List SK)) : S → List SK → Option (Option (List SK))
  | .nil, O => some (some O)
  | .seq a b, O => match chkS lp a O with
    | some (some O1) => chkS lp b O1
    | some none => some none
    | none => none
  | .fgt l, O => some (some (wipeO O l))
  | .frz n l, O => if wkA O (frzO n O l) then some (some (frzO n O l)) else none
  | .asg t e, O => match kE rds O e with
    | some .dead => none
    | some κ => some (some (kT t κ O))
    | none => none
  | .app i e, O => match stoK O i 0 (kE rds O e) with
    | some O1 => some (some O1)
    | none => none
  | .ife c a b, O => if live (kE rds O c) then (match chkS lp a O, chkS lp b O with
    | some x, some y => mergeF x y
    | _, _ => none) else none
  | .for_ t it b, O => match kI rds (invF rds t it b O) it with
    | some κ => if wkA O (invF rds t it b O) && frI rds (invF rds t it b O) it && !(κ == .dead) then (match chkS (some (invF rds t it b O)) b (kT t κ (invF rds t it b O)) with
      | some r => if backTo? (invF rds t it b O) r then some (some (invF rds t it b O)) else none
      | none => none) else none
    | none => none
  | .ret e, O => match e with
    | .var i => (match O[i]? with
      | some (.e (.own n)) => if rd ≤ n then some none else none
      | some (.e (.bor _)) => if rd = 0 then some none else none
      | some (.lent _ _) => if rd = 0 then some none else none
      | _ => none)
    | e => (match kE rds O e with
      | some (.own r) => if rd ≤ r then some none else none
      | some (.bor _) => if rd = 0 then some none else none
      | _ => none)
  | .retN, _ => some none
  | .brk, O => match lp with
    | some I => if wkA O I then some none else none
    | none => none
  | .cnt, O => match lp with
    | some I => if wkA O I then some none else none
    | none => none
  | .pas, O => some (some O)
  | .nev, _ => some none
  | .rse x e, O => if live (kE rds O e) then some none else none
  | .try_ b _, O => if rd = 0 then chkS lp b O else none
  | .expr e, O => if live (kE rds O e) then some (some O) else none
end
def OutS (K : PySem.W.Frag) (Y : Wd) (rd : Nat) (D : Ends) (lp O' : Option (List SK)) (B : Hp) (r : Res) : Prop := match r with
  | .nx ρ' => match O' with
    | some O1 => ∀ B' σ' fs' F' H', Le B B' → Sta K B' O1 ρ' σ' fs' F' H' → D.nx σ' H'
    | none => False
  | .brk ρ' => match lp with
    | some O1 => ∀ B' σ' fs' F' H', Le B B' → Sta K B' O1 ρ' σ' fs' F' H' → D.bk σ' H'
    | none => False
  | .cnt ρ' => match lp with
    | some O1 => ∀ B' σ' fs' F' H', Le B B' → Sta K B' O1 ρ' σ' fs' F' H' → D.ct σ' H'
    | none => False
  | .ret d => ∀ v B' f cs H', Le B B' → Ov B' (f ++ cs) H' → Rp K B' rd v d f → D.rt v H'
  | .exc c i => ∀ σ', Exc K Y.cl Y.W σ' B c i
  | .stuck => False
def tS (K : PySem.W.Frag) (Y : Wd) (rd : Nat) (lp : Option (List SK)) (O : List SK) (O' : Option (List SK)) (a : S) : TS := fun D σ H => ∃ B ρ fs F, Sta K B O ρ σ fs F H ∧ OutS K Y rd D lp O' B (evS Y.Φ a ρ)
theorem PS.imp {X : Cx} {st : Stmt} {t t' : TS} (h : PS X st t) (f : ∀ D σ H, t' D σ H → t D σ H) : PS X st t' := ⟨fun pins s σ H D I q => h.run pins s σ H D I (f D σ H q)⟩
theorem PSs.imp {X : Cx} {st : List Stmt} {t t' : TS} (h : PSs X st t) (f : ∀ D σ H, t' D σ H → t D σ H) : PSs X st t' := ⟨fun pins s σ H D I q => h.run pins s σ H D I (f D σ H q)⟩
section
variable {K : PySem.W.Frag} {Y : Wd} {rd : Nat} {D D' : Ends} {lp O' : Option (List SK)} {B B' H H' : Hp} {O : List SK} {ρ : En} {σ : L2.St} {fs : List Fp} {F : Fp}
theorem OutS.mono {r : Res} (l : Le B B') (h : OutS K Y rd D lp O' B r) : OutS K Y rd D lp O' B' r := by
  cases r with
  | nx ρ' =>
    cases O' with
    | none => exact h
    | some O1 => exact fun B2 σ' fs' F' H' l2 S => h B2 σ' fs' F' H' (l.trans l2) S
  | brk ρ' =>
    cases lp with
    | none => exact h
    | some O1 => exact fun B2 σ' fs' F' H' l2 S => h B2 σ' fs' F' H' (l.trans l2) S
  | cnt ρ' =>
    cases lp with
    | none => exact h
    | some O1 => exact fun B2 σ' fs' F' H' l2 S => h B2 σ' fs' F' H' (l.trans l2) S
  | ret d => exact fun v B2 f cs H' l2 => h v B2 f cs H' (l.trans l2)
  | exc c i => exact fun σ' => Exc.mono l (h σ')
  | stuck => exact h
theorem OutS.go {α : Type} {r : R α} {f : α → Res} (h : OutS K Y rd D lp O' B (r.go f)) : r ≠ .stuck ∧ (∀ c i, r = .exc c i → ∀ σ, Exc K Y.cl Y.W σ B c i) ∧ ∀ d, r = .ok d → OutS K Y rd D lp O' B (f d) := by
  cases r with
  | ok d => exact ⟨(fun q => nomatch q), (fun _ _ q => nomatch q), fun d' q => by cases q; exact h⟩
  | exc c i => exact ⟨(fun q => nomatch q), (fun c' i' q => by cases q; exact h), (fun _ q => nomatch q)⟩
  | stuck => exact h.elim
theorem perm4 (x y z w : Fp) : (x ++ (y ++ (z ++ w))).Perm (z ++ (x ++ (y ++ w))) :=
  (List.Perm.append_left x (List.perm_append_comm_assoc y z w)).trans (List.perm_append_comm_assoc x z (y ++ w))
/-- less is claimed of a slot -/
theorem Slot.weak {o o' : SK} {r : Option PyData} {s : Option V} {f c : Fp} (w : wkS o o' = true) (h : Slot K B H o r s f) (ov : Ov B (f ++ c) H) : ∃ B' f' g, Le B B' ∧ Ov B' (f' ++ (g ++ c)) H ∧ Slot K B' H o' r s f' ∧ ((∃ n, o' = .e (.own n)) → Le (hOf B f) (hOf B' f')) := by
  cases r with
  | none =>
    have e : f = [] := h
    subst e
    exact ⟨B, [], [], Le.refl _, ov, rfl, fun _ => Le.refl _⟩
  | some d =>
    cases o' with
    | lent b p =>
      cases o with
      | e κ => cases κ <;> cases w
      | lent b' p' =>
        have e : f = [] := h
        subst e
        exact ⟨B, [], [], Le.refl _, ov, rfl, fun _ => Le.refl _⟩
    | e κ' =>
      cases κ' with
      | dead => exact ⟨B, [], f, Le.refl _, ov, rfl, fun ⟨_, z⟩ => nomatch z⟩
      | own m =>
        cases o with
        | lent b p => cases w
        | e κ =>
          cases κ with
          | own n =>
            obtain ⟨v, e, q⟩ := h
            obtain ⟨B', f', l, o', q'⟩ := Rp.weak (of_decide_eq_true w) q ov
            exact ⟨B', f', [], l, o', ⟨v, e, q'⟩, fun _ => hOf_less l ov o' fun p m => .inl m⟩
          | bor b => cases w
          | dead => cases w
      | bor m =>
        cases o with
        | lent b p => cases w
        | e κ =>
          cases κ with
          | own n =>
            cases n with
            | zero =>
              obtain ⟨v, e, q⟩ := h
              obtain ⟨rfl, q⟩ := q
              exact ⟨B, [], [], Le.refl _, ov, ⟨rfl, v, e, Bp.of q⟩, fun ⟨_, z⟩ => nomatch z⟩
            | succ n => cases w
          | bor b =>
            have e : b = m := of_decide_eq_true w
            subst e
            exact ⟨B, f, [], Le.refl _, ov, h, fun ⟨_, z⟩ => nomatch z⟩
          | dead => cases w
/-- what a slot of ours lends is still there -/
def Keeps (B B' : Hp) (O' : List SK) (fs fs' : List Fp) : Prop := ∀ (o n : Nat), O'[o]? = some (.e (.own n)) → ∀ f, fs[o]? = some f → ∃ f', fs'[o]? = some f' ∧ Le (hOf B f) (hOf B' f')
theorem Slots.weak : ∀ {O O' : List SK} {ρ : En} {σ : L2.St} {fs : List Fp} {B : Hp} {c : Fp}, wkO O O' = true → Slots K B H O ρ σ fs → Ov B (fs.flatten ++ c) H → ∃ B' fs' g, Le B B' ∧ Ov B' (fs'.flatten ++ (g ++ c)) H ∧ Slots K B' H O' ρ σ fs' ∧ Keeps B B' O' fs fs'
  | [], O', _, _, _, B, c, w, h, ov => by
    cases h
    cases O' with
    | nil => exact ⟨B, [], [], Le.refl _, ov, .nil, fun o n z => by simp at z⟩
    | cons => cases w
  | o :: O, O', _, _, _, B, c, w, h, ov => by
    cases O' with
    | nil => cases w
    | cons o' O' =>
      simp only [wkO, Bool.and_eq_true] at w
      cases h with
      | @cons _ r s f _ ρ σ fs q t =>
        rw [List.flatten_cons, List.append_assoc] at ov
        obtain ⟨B1, f1, g1, l1, o1, q1, k1⟩ := q.weak w.1 ov
        have o1' : Ov B1 (fs.flatten ++ (f1 ++ (g1 ++ c))) H := o1.perm (by
          exact perm4 f1 g1 fs.flatten c)
        obtain ⟨B2, fs2, g2, l2, o2, q2, k2⟩ := Slots.weak w.2 (t.mono l1 (Le.refl _)) o1'
        refine ⟨B2, f1 :: fs2, g2 ++ g1, l1.trans l2, o2.perm ?_, .cons (q1.mono l2 (Le.refl _)) q2, fun i n hi f0 hf => ?_⟩
        · rw [List.flatten_cons, List.append_assoc, List.append_assoc]
          exact perm4 fs2.flatten g2 f1 (g1 ++ c)
        · cases i with
          | zero =>
            simp only [List.getElem?_cons_zero, Option.some.injEq] at hi hf ⊢
            subst hf
            exact ⟨f1, rfl, (k1 ⟨n, hi⟩).trans (hOf_mono l2)⟩
          | succ i =>
            simp only [List.getElem?_cons_succ] at hi hf ⊢
            obtain ⟨f', e', l'⟩ := k2 i n hi f0 hf
            exact ⟨f', e', (hOf_mono l1).trans l'⟩
theorem wkO_at : ∀ {O O' : List SK} {i : Nat} {k' : SK}, wkO O O' = true → O'[i]? = some k' → ∃ k, O[i]? = some k ∧ wkS k k' = true
  | [], [], i, k', _, h => by simp at h
  | [], _ :: _, _, _, w, _ => by cases w
  | _ :: _, [], _, _, w, _ => by cases w
  | a :: O, b :: O', i, k', w, h => by
    simp only [wkO, Bool.and_eq_true] at w
    cases i with
    | zero => simp at h; subst h; exact ⟨a, rfl, w.1⟩
    | succ i =>
      obtain ⟨k, h1, h2⟩ := wkO_at w.2 (by simpa using h)
      exact ⟨k, by simpa using h1, h2⟩
theorem lentOk_at {O : List SK} (h : lentOk O = true) {i b o : Nat} (e : O[i]? = some (.lent b o)) : ∃ n, O[o]? = some (.e (.own n)) := by
  unfold lentOk at h
  have q := List.all_eq_true.mp h _ (List.mem_of_getElem? e)
  have q : ownS O[o]? = true := q
  unfold ownS at q
  split at q
  · rename_i n hn; exact ⟨n, hn⟩
  · cases q
theorem Lents.weak {O' : List SK} {fs' : List Fp} (h : Lents K B O ρ σ fs) (w : wkO O O' = true) (lo : lentOk O' = true) (l : Le B B') (k : Keeps B B' O' fs fs') : Lents K B' O' ρ σ fs' := by
  intro i b o ho d hd
  obtain ⟨k0, e0, w0⟩ := wkO_at w ho
  have e1 : k0 = .lent b o := by
    cases k0 with
    | e κ => cases κ <;> cases w0
    | lent b' o' =>
      have w0 : (decide (b' = b) && decide (o' = o)) = true := w0
      simp only [Bool.and_eq_true, decide_eq_true_eq] at w0
      rw [w0.1, w0.2]
  subst e1
  obtain ⟨v, f, h1, h2, h3⟩ := h i b o e0 d hd
  obtain ⟨n, hn⟩ := lentOk_at lo ho
  obtain ⟨f', e', l'⟩ := k o n hn f h2
  refine ⟨v, f', h1, e', ?_⟩
  exact Bp.le l l' h3
theorem Sta.weak {O' : List SK} (S : Sta K B O ρ σ fs F H) (w : wkA O O' = true) : ∃ B' fs' F', Le B B' ∧ Sta K B' O' ρ σ fs' F' H := by
  unfold wkA at w
  rw [Bool.and_eq_true] at w
  obtain ⟨B', fs', g, l, o, q, k⟩ := S.sl.weak w.1 S.ov
  exact ⟨B', fs', g ++ F, l, o, q, S.ln.weak w.1 w.2 l k⟩
theorem Slots.fgt (h : Slots K B H O ρ σ fs) : ∀ (vs : List Nat), ∃ g, Slots K B H (wipeO O vs) (wipeD ρ vs) σ (wipeF fs vs) ∧ fs.flatten.Perm ((wipeF fs vs).flatten ++ g)
  | [] => ⟨[], h, by rw [List.append_nil]; exact List.Perm.refl _⟩
  | v :: vs => by
    obtain ⟨g1, h1, p1⟩ := Slots.fgt h vs
    show ∃ g, Slots K B H ((unlO v (wipeO O vs)).set v (.e .dead)) ((wipeD ρ vs).set v none) σ ((wipeF fs vs).set v []) ∧ fs.flatten.Perm (((wipeF fs vs).set v []).flatten ++ g)
    obtain ⟨lr, ls, lf⟩ := h1.len
    by_cases hi : v < (wipeO O vs).length
    · obtain ⟨o, r, s, f, _, _, hs, hf, _, hset⟩ := (h1.unl (i := v)).at (by rw [unlO_len]; exact hi)
      obtain ⟨f1, hp, hp'⟩ := flat_at hf
      have q := hset B H (Le.refl _) (Le.refl _) (.e .dead) none s [] rfl
      have e : σ.set v s = σ := by
        apply List.ext_getElem?
        intro j
        rw [List.getElem?_set]
        by_cases e : v = j
        · subst e
          rw [if_pos rfl, if_pos (List.getElem?_eq_some_iff.mp hs).1, hs]
        · rw [if_neg e]
      rw [e] at q
      refine ⟨f ++ g1, q, p1.trans ?_⟩
      have z : ((wipeF fs vs).set v []).flatten.Perm f1 := by simpa using hp' []
      refine (List.Perm.append_right _ hp).trans ?_
      rw [← List.append_assoc]
      exact List.Perm.append_right _ (List.perm_append_comm.trans (List.Perm.append_right _ z.symm))
    · have e1 : (unlO v (wipeO O vs)).set v (.e .dead) = unlO v (wipeO O vs) := List.set_eq_of_length_le (by rw [unlO_len]; omega)
      have e2 : (wipeD ρ vs).set v none = wipeD ρ vs := List.set_eq_of_length_le (by omega)
      have e4 : (wipeF fs vs).set v [] = wipeF fs vs := List.set_eq_of_length_le (by omega)
      rw [e1, e2, e4]
      exact ⟨g1, h1.unl, p1⟩
theorem Slots.self (h : Slots K B H O ρ σ fs) (v : Nat) : ∃ s : Option V, σ.set v s = σ := by
  cases e : σ[v]? with
  | none => exact ⟨none, List.set_eq_of_length_le (by rw [List.getElem?_eq_none_iff] at e; exact e)⟩
  | some s =>
    refine ⟨s, ?_⟩
    apply List.ext_getElem?
    intro j
    rw [List.getElem?_set]
    by_cases q : v = j
    · subst q
      rw [if_pos rfl, if_pos (List.getElem?_eq_some_iff.mp e).1, e]
    · rw [if_neg q]
theorem Lents.fgt (h : Lents K B O ρ σ fs) (sl : Slots K B H O ρ σ fs) : ∀ (vs : List Nat), Lents K B (wipeO O vs) (wipeD ρ vs) σ (wipeF fs vs)
  | [] => h
  | v :: vs => by
    obtain ⟨s, e⟩ := sl.self v
    have q := (Lents.fgt h sl vs).put (i := v) (κ := .dead) (r := none) (s := s) (f := [])
    rw [e] at q
    exact q
theorem Sta.fgt (S : Sta K B O ρ σ fs F H) (vs : List Nat) : ∃ fs' F', Sta K B (wipeO O vs) (wipeD ρ vs) σ fs' F' H := by
  obtain ⟨g, h, p⟩ := S.sl.fgt vs
  refine ⟨_, g ++ F, S.ov.perm ?_, h, S.ln.fgt S.sl vs⟩
  rw [← List.append_assoc]
  exact List.Perm.append_right _ p
/-- what may be borrowed is not read again -/
theorem Slot.kill (l : Le B B') {o : SK} {r : Option PyData} {s : Option V} {f : Fp} (h : Slot K B H o r s f) : Slot K B' H' (kill1 o) r s f := by
  cases o with
  | lent b p => cases r <;> exact h
  | e κ =>
    cases r with
    | none => cases κ <;> exact h
    | some d =>
      cases κ with
      | own n => obtain ⟨v, e, q⟩ := h; exact ⟨v, e, q.le l⟩
      | bor b => exact h.1
      | dead => exact h
theorem Slots.kill (l : Le B B') (h : Slots K B H O ρ σ fs) : Slots K B' H' (killB O) ρ σ fs := by
  induction h with
  | nil => exact .nil
  | cons r _ ih => exact .cons (r.kill l) ih
end
end DL
set_option Elab.async false
set_option linter.all false
set_option maxRecDepth 100000
set_option maxHeartbeats 1000000
namespace DL
open PySem PySem.Spec PyProof.Rows L2
section
variable {K : PySem.W.Frag} {Y : Wd} {rd : Nat} {D : Ends} {lp O' : Option (List SK)} {B B' H H' : Hp} {O : List SK} {ρ : En} {σ : L2.St} {fs : List Fp} {F : Fp} {cs : Fp} {κ : OS} {Q : VK}
theorem OutS.val {r : R PyData} {f : PyData → Res} (h : OutS K Y rd D lp O' B (r.go f)) (g : ∀ d, OutS K Y rd D lp O' B (f d) → ∀ v B' fp H', Le B B' → Ov B' (fp ++ cs) H' → Rs K B' H' κ v d fp → Q v H') : Out K Y.cl Y.W σ B cs κ r Q := by
  cases r with
  | ok d => exact fun v B' fp H' l o q => g d h v B' fp H' l o q
  | exc c i => exact h σ
  | stuck => exact h.elim
theorem OutS.opd {r : R PyData} {f : PyData → Res} (h : OutS K Y rd D lp O' B (r.go f)) (g : ∀ d, OutS K Y rd D lp O' B (f d) → ∀ v B' H', Le B B' → Ov B' cs H' → Bp K B' H' (dep κ) v d → Q v H') : Out K Y.cl Y.W σ B cs κ r Q := by
  obtain ⟨h1, h2, h3⟩ := h.go
  exact Out.opnd h1 (fun c i e => h2 c i e σ) fun d e v B1 H1 l o q => g d (h3 d e) v B1 H1 l o q
/-- a list that is changed: old items and new cells -/
def Chg (K : PySem.W.Frag) (B : Hp) (m : Nat) (xs xs' : List V) (ds ds' : List PyData) (f : Fp) : Prop := ∀ Fs, All3 (Rp K B m) xs ds Fs → ∃ Fs' g, All3 (Rp K B m) xs' ds' Fs' ∧ (Fs ++ f).Perm (Fs' ++ g)
theorem chg_app {m : Nat} {xs : List V} {ds : List PyData} {v : V} {d : PyData} {f : Fp} (q : Rp K B m v d f) : Chg K B m xs (xs ++ [v]) ds (ds ++ [d]) f := by
  intro Fs h
  refine ⟨_, [], h.app (.cons q .nil), ?_⟩
  rw [List.append_nil, List.append_nil]
/-- a list of ours is changed -/
theorem Rp.wr0 {m : Nat} {u : V} {ds : List PyData} {G f c : Fp} (h : Rp K B (m + 1) u (.list ds) G) (ov : Ov B (G ++ (f ++ c)) H) : ∃ p xs, u = .ref p ∧ H p = some (.lst xs) ∧ xs.length = ds.length ∧ xs.length ≤ sizeLine ∧
    ∀ xs' ds', xs'.length ≤ sizeLine → Chg K B m xs xs' ds ds' f → ∃ G' g, Rp K B (m + 1) u (.list ds') G' ∧ Ov B (G' ++ (g ++ c)) (upd H p (.lst xs')) := by
  rcases h with ⟨h0, _⟩ | ⟨p, xs, ds1, Fs, e1, e2, e3, hz, h⟩ | ⟨_, _, _, _, _, e2, _⟩ | ⟨_, _, _, _, _, e2, _⟩
  · cases h0
  · cases e2
    subst e1 e3
    refine ⟨p, xs, rfl, (ov.own p _ (List.mem_append_left _ List.mem_cons_self)).1, h.length, hz, fun xs' ds' z ch => ?_⟩
    obtain ⟨Fs', g, h', pm⟩ := ch Fs h
    refine ⟨(p, .lst xs') :: Fs', g, .inr (.inl ⟨p, xs', ds', Fs', rfl, rfl, rfl, z, h'⟩), ?_⟩
    have o1 : Ov B ((p, .lst xs) :: (Fs' ++ (g ++ c))) H := ov.perm (by
      show ((p, HO.lst xs) :: (Fs ++ (f ++ c))).Perm _
      refine List.Perm.cons _ ?_
      rw [← List.append_assoc, ← List.append_assoc]
      exact List.Perm.append_right _ pm)
    exact o1.write (.lst xs')
  · cases e2
  · cases e2
theorem set_self {α : Type} {l : List α} {i : Nat} {a : α} (h : l[i]? = some a) : l.set i a = l := by
  apply List.ext_getElem?
  intro j
  rw [List.getElem?_set]
  by_cases e : i = j
  · subst e
    rw [if_pos rfl, if_pos (List.getElem?_eq_some_iff.mp h).1, h]
  · rw [if_neg e]
theorem killB_at {i n : Nat} (h : O[i]? = some (.e (.own n))) : (killB (unlO i O))[i]? = some (.e (.own n)) := by
  unfold killB unlO
  rw [List.getElem?_map, List.getElem?_map, h]; rfl
theorem killB_set {i n : Nat} : (killB (unlO i O)).set i (.e (.own n)) = killB (unlO i (O.set i (.e (.own n)))) := by
  unfold killB unlO
  rw [List.map_set, List.map_set]; rfl
theorem kill_lent {j b o : Nat} (h : (killB O)[j]? = some (.lent b o)) : O[j]? = some (.lent b o) := by
  unfold killB at h
  rw [List.getElem?_map] at h
  cases e : O[j]? with
  | none => rw [e] at h; cases h
  | some k =>
    rw [e] at h
    have h : kill1 k = .lent b o := Option.some.inj h
    cases k with
    | e κ => cases κ <;> cases h
    | lent b' o' => cases h; rfl
/-- the lender i changes: what the others lend stands -/
theorem Lents.write {i n : Nat} {r : Option PyData} {f : Fp} (h : Lents K B O ρ σ fs) : Lents K B (killB (unlO i (O.set i (.e (.own n))))) (ρ.set i r) σ (fs.set i f) := by
  intro j b o ho d hd
  obtain ⟨h1, h2⟩ := unl_lent (kill_lent ho)
  by_cases e : i = j
  · subst e
    rw [List.getElem?_set, if_pos rfl] at h1
    split at h1 <;> cases h1
  · rw [List.getElem?_set, if_neg e] at h1 hd
    obtain ⟨v, g, g1, g2, g3⟩ := h j b o h1 d hd
    exact ⟨v, g, g1, by rw [List.getElem?_set, if_neg fun z => h2 z.symm]; exact g2, g3⟩
/-- a slot of ours, and what is put there once its cells are changed -/
theorem Sta.own_at {i n : Nat} {d : PyData} {f : Fp} (S : Sta K B O ρ σ fs (f ++ F) H) (ho : O[i]? = some (.e (.own n))) (hr : ρ[i]? = some (some d)) : ∃ u G c, σ[i]? = some (some u) ∧ Rp K B n u d G ∧ Ov B (G ++ (f ++ c)) H ∧
    ∀ G' g d' n' H', Rp K B n' u d' G' → Ov B (G' ++ (g ++ c)) H' → ∃ fs' F', Sta K B (killB (unlO i (O.set i (.e (.own n'))))) (ρ.set i (some d')) σ fs' F' H' := by
  obtain ⟨s, G, f1, hs, hS, hp, hf, hp', _⟩ := S.sl.get ho hr
  obtain ⟨u, rfl, q⟩ := hS
  refine ⟨u, G, f1 ++ F, hs, q, S.ov.perm ?_, fun G' g d' n' H' q' o' => ?_⟩
  · refine (List.Perm.append_right _ hp).trans ?_
    rw [List.append_assoc]
    refine List.Perm.append_left G ?_
    exact List.perm_append_comm_assoc _ _ _
  · obtain ⟨s2, G2, f2, hs2, _, _, hf2, hp2, hset⟩ := ((S.sl.unl (i := i)).kill (H' := H') (Le.refl B)).get (killB_at ho) hr
    rw [hs] at hs2; cases hs2
    rw [hf] at hf2; cases hf2
    have sl := hset B H' (Le.refl _) (Le.refl _) (.e (.own n')) (some d') (some u) G' ⟨u, rfl, q'⟩
    rw [set_self hs, killB_set] at sl
    refine ⟨_, g ++ F, o'.perm ?_, sl, S.ln.write⟩
    refine List.Perm.trans ?_ (List.Perm.append_right _ (hp' G').symm)
    rw [List.append_assoc]
    refine List.Perm.append_left G' ?_
    exact List.perm_append_comm_assoc _ _ _
theorem wkS_refl (o : SK) : wkS o o = true := by
  cases o with
  | e κ => cases κ <;> simp [wkS, wk1]
  | lent b p => simp [wkS]
theorem wkO_refl : ∀ O : List SK, wkO O O = true
  | [] => rfl
  | a :: O => by simp only [wkO, Bool.and_eq_true]; exact ⟨wkS_refl a, wkO_refl O⟩
theorem wkO_refl_set : ∀ {O : List SK} {i : Nat} {o o' : SK}, O[i]? = some o → wkS o o' = true → wkO O (O.set i o') = true
  | [], _, _, _, h, _ => by simp at h
  | a :: O, 0, o, o', h, w => by
    simp at h; subst h
    show (wkS a o' && wkO O O) = true
    rw [w, wkO_refl]; rfl
  | a :: O, i + 1, o, o', h, w => by
    show (wkS a a && wkO O (O.set i o')) = true
    rw [wkS_refl, wkO_refl_set (by simpa using h) w]; rfl
theorem lentOk_of {O : List SK} (h : ∀ (i b o : Nat), O[i]? = some (.lent b o) → ownS O[o]? = true) : lentOk O = true := by
  unfold lentOk
  rw [List.all_eq_true]
  intro k m
  obtain ⟨i, e⟩ := List.getElem?_of_mem m
  cases k with
  | e κ => rfl
  | lent b o => exact h i b o e
theorem lentOk_set {i n m : Nat} (h : lentOk O = true) (ho : O[i]? = some (.e (.own n))) : lentOk (O.set i (.e (.own m))) = true := by
  refine lentOk_of fun j b o e => ?_
  by_cases q : i = j
  · subst q
    rw [List.getElem?_set, if_pos rfl, if_pos (List.getElem?_eq_some_iff.mp ho).1] at e
    cases e
  · rw [List.getElem?_set, if_neg q] at e
    obtain ⟨k, hk⟩ := lentOk_at h e
    by_cases z : i = o
    · subst z
      rw [List.getElem?_set, if_pos rfl, if_pos (List.getElem?_eq_some_iff.mp ho).1]; rfl
    · rw [List.getElem?_set, if_neg z, hk]; rfl
theorem Sta.frame {F' : Fp} (S : Sta K B O ρ σ fs F H) (p : F.Perm F') : Sta K B O ρ σ fs F' H := ⟨S.ov.perm (List.Perm.append_left _ p), S.sl, S.ln⟩
theorem Sta.weakV {n l : Nat} {v : V} {d : PyData} {f : Fp} (S : Sta K B O ρ σ fs (f ++ F) H) (q : Rp K B n v d f) (h : l ≤ n) : ∃ B' f', Le B B' ∧ Sta K B' O ρ σ fs (f' ++ F) H ∧ Rp K B' l v d f' := by
  obtain ⟨B2, f2, l2, o2, q2⟩ := Rp.weak h q (c := fs.flatten ++ F) (S.ov.perm (List.perm_append_comm_assoc _ _ _))
  exact ⟨B2, f2, l2, ⟨o2.perm (List.perm_append_comm_assoc _ _ _), S.sl.mono l2 (Le.refl _), S.ln.mono l2⟩, q2⟩
/-- a slot's depth is lessened, and a value's, to meet -/
theorem Sta.meet {i n m r : Nat} {v : V} {d : PyData} {f : Fp} (S : Sta K B O ρ σ fs (f ++ F) H) (lo : lentOk O = true) (ho : O[i]? = some (.e (.own n))) (q : Rp K B r v d f) (h1 : m ≤ n) (l : Nat) (h2 : l ≤ r) : ∃ B' fs' f' F', Le B B' ∧ Sta K B' (O.set i (.e (.own m))) ρ σ fs' (f' ++ F') H ∧ Rp K B' l v d f' ∧ (O.set i (.e (.own m)))[i]? = some (.e (.own m)) := by
  have w : wkO O (O.set i (.e (.own m))) = true := wkO_refl_set ho (by simp [wkS, wk1, h1])
  obtain ⟨B1, fs1, g1, l1, o1, q1, k1⟩ := S.sl.weak w S.ov
  have S1 : Sta K B1 (O.set i (.e (.own m))) ρ σ fs1 (f ++ (g1 ++ F)) H := Sta.frame ⟨o1, q1, S.ln.weak w (lentOk_set lo ho) l1 k1⟩ (List.perm_append_comm_assoc _ _ _)
  obtain ⟨B2, f2, l2, S2, q2⟩ := S1.weakV (q.le l1) h2
  refine ⟨B2, fs1, f2, g1 ++ F, l1.trans l2, S2, q2, ?_⟩
  rw [List.getElem?_set, if_pos rfl, if_pos (List.getElem?_eq_some_iff.mp ho).1]
theorem set_set' {i : Nat} {a b : SK} : (O.set i a).set i b = O.set i b := by rw [List.set_set]
end
end DL
set_option Elab.async false
set_option linter.all false
set_option maxRecDepth 100000
set_option maxHeartbeats 1000000
namespace DL
open PySem PySem.Spec PyProof.Rows L2
theorem sw_other {v : Expr} (h : isComp v = false) (t : Option Expr) (l : Nat) (env : Env) : swapsWith v t l env = pure false := by
  cases v <;> first | rfl | (simp [isComp] at h)
theorem sw_tup (v : Expr) (es : List Expr) (k : Nat) (p : Pos) (l : Nat) (env : Env) : swapsWith v (some (.Tuple es k p)) l env = pure false := by cases v <;> rfl
theorem ss_tup {v : Expr} (h : notTup v = true) (es : List Expr) (k : Nat) (p : Pos) (env : Env) : swappedStores [.Tuple es k p] v env = pure none := by
  cases v <;> first | rfl | (simp [notTup] at h)
theorem fm_lt {f : Expr → Option Str} {sc : Scope} (hf : ∀ e, notNm sc e = true → f e = none) : ∀ {es : List Expr}, es.any (notNm sc) = true → (es.filterMap f).length < es.length
  | [], h => by simp at h
  | e :: es, h => by
    rw [List.any_cons, Bool.or_eq_true] at h
    have le : (es.filterMap f).length ≤ es.length := List.length_filterMap_le f es
    rcases h with h | h
    · rw [List.filterMap_cons_none (hf e h), List.length_cons]; omega
    · have ih := fm_lt hf h
      cases he : f e with
      | none => rw [List.filterMap_cons_none he, List.length_cons]; omega
      | some b => rw [List.filterMap_cons_some he, List.length_cons, List.length_cons]; omega
theorem ss_in {v : Expr} {es : List Expr} {k : Nat} {p : Pos} {sc : Scope} (h : (notTup v || inTup sc (.Tuple es k p)) = true) (env : Env) (hn : ∀ x, isLoc (lk sc x) = false → env.scope.names.lookup x ≠ some .local) : swappedStores [.Tuple es k p] v env = pure none := by
  rcases Bool.or_eq_true _ _ ▸ h with h | h
  · exact ss_tup h es k p env
  · by_cases hv : notTup v = true
    · exact ss_tup hv es k p env
    · cases v <;> try (exact absurd rfl hv)
      rename_i vs k2 p2
      have h : es.any (notNm sc) = true := h
      unfold swappedStores
      simp only []
      split
      · rfl
      · split
        · rfl
        · rw [if_pos]
          rw [Bool.or_eq_true, bne_iff_ne]
          refine .inl (Nat.ne_of_lt (fm_lt (fun e he => ?_) h))
          cases e <;> try rfl
          rename_i x q
          have he : isLoc (lk sc x) = false := by simpa [notNm] using he
          have hk : (env.kindOf x == some .local) = false := beq_eq_false_iff_ne.mpr (hn x he)
          simp only [hk, Bool.false_and]
          rfl
structure GS (T : Tx) (rds : Nat → Nat) (Y : Wd) (N : List Str) (n : Nat) (sc : Scope) (X : Cx) : Prop where
  g : Good T rds Y N n sc X
  po : PassesOwn (model X.prog X.w) X.A X.env X.xe
  st : X.stack = X.env :: X.outer
  fr : X.env.frame = some X.env.locals
section
variable {K : PySem.W.Frag} {Y : Wd} {rd : Nat} {D : Ends} {lp O' : Option (List SK)} {B : Hp} {O : List SK} {ρ : En}
theorem OutS.noX {r : R En} {f : En → Res} (h : OutS K Y rd D lp O' B (r.noX.go f)) : ∃ ρ1, r = .ok ρ1 ∧ OutS K Y rd D lp O' B (f ρ1) := by
  cases r with
  | ok d => exact ⟨d, rfl, h⟩
  | exc c i => exact h.elim
  | stuck => exact h.elim
theorem OutS.getS {i : Nat} {f : PyData → Res} (h : OutS K Y rd D lp O' B ((DL.getS ρ i).go f)) : ∃ d, ρ[i]? = some (some d) ∧ OutS K Y rd D lp O' B (f d) := by
  unfold DL.getS at h
  cases e : ρ[i]? with
  | none => simp only [e] at h; exact h.elim
  | some r =>
    cases r with
    | none => simp only [e] at h; exact h.elim
    | some d => simp only [e] at h; exact ⟨d, rfl, h⟩
theorem OutS.asL {i : Nat} {f : PyData → Res} (h : OutS K Y rd D lp O' B (((DL.getS ρ i).bind DL.asL).go f)) : ∃ ds, ρ[i]? = some (some (.list ds)) ∧ OutS K Y rd D lp O' B (f (.list ds)) := by
  unfold DL.getS at h
  cases e : ρ[i]? with
  | none => simp only [e] at h; exact h.elim
  | some r =>
    cases r with
    | none => simp only [e] at h; exact h.elim
    | some d =>
      simp only [e] at h
      cases d <;> first | exact ⟨_, rfl, h⟩ | exact h.elim
end
section
variable {T : Tx} {rds : Nat → Nat} {N : List Str} {n : Nat} {sc : Scope} {X : Cx} {Y : Wd} {rd : Nat} {lp : Option (List SK)} {O : List SK}
theorem mName_shape {i : Nat} {e : Expr} (m : mName N sc i e = true) : ∃ x q, e = .Name x q ∧ N[i]? = some x ∧ isVis (lk sc x) = true ∧ okName x = true := by
  cases e <;> try (simp [mName] at m; done)
  simp only [mName, Bool.and_eq_true, decide_eq_true_eq] at m
  exact ⟨_, _, rfl, m.1.1, m.1.2, m.2⟩
theorem pe_nm (G : Good T rds Y N n sc X) {i : Nat} {e : Expr} (m : mName N sc i e = true) : PE X e (tVar i) := by
  obtain ⟨x, q, rfl, h1, h2, h3⟩ := mName_shape m
  obtain ⟨a, b, _⟩ := okName3 h3
  exact pe_var (by rw [G.hN]; exact h1) (G.vis _ h2) a b
/-- name = value: what is read -/
theorem nm_read {e : C} {i : Nat} {κ : OS} {D : Ends} {σ : L2.St} {H : Hp} (h : tS X.K Y rd lp O (some ((unlO i O).set i (.e κ))) (.asg (.nm i) e) D σ H) : tD X.K Y O e κ σ H fun y H1 => D.nx (σ.set i (some y)) H1 := by
  obtain ⟨B, ρ, fs, F, S, h⟩ := h
  simp only [evS] at h
  refine ⟨B, ρ, fs, F, S, h.val fun d hd v B' fp H' l o q => ?_⟩
  obtain ⟨B2, l2, S2⟩ := (S.mono l o).put q
  exact hd B2 _ _ _ _ (l.trans l2) S2
theorem sw_cell {elt : Expr} {gs : List Comprehension} {scope : Scope} {pos py : Pos} {y : Str} {l : Nat} {env : Env} (hy : env.scope.names.lookup y ≠ some .local) : swapsWith (.ListComp elt gs scope pos) (some (.Name y py)) l env = pure false := by
  have ky : (env.kindOf y == some .local) = false := beq_eq_false_iff_ne.mpr hy
  unfold swapsWith
  simp only [ky, Bool.and_false, Bool.false_and]
theorem ps_nm (G : Good T rds Y N n sc X) {e : C} {i : Nat} {κ : OS} {x : Str} {q p : Pos} {v : Expr} (m : mE T N sc e v = true) (hi : N[i]? = some x) (hl : isLC (lk sc x) = true) (sw : swOk sc x q.line v = true) (k : kE rds O e = some κ) :
    PS X (.Assign [.Name x q] v p) (tS X.K Y rd lp O (some ((unlO i O).set i (.e κ))) (.asg (.nm i) e)) := by
  have hi' : X.N[i]? = some x := by rw [G.hN]; exact hi
  have nd : X.N.Nodup := by rw [G.hN]; exact G.nd
  obtain ⟨h1, h2⟩ := G.lc _ hl
  by_cases hc : isComp v = true
  · cases v <;> try (simp [isComp] at hc; done)
    · rename_i elt gens sc2 pos
      cases hlo : isLoc (lk sc x) with
      | false => exact PS.imp (ps_set nd hi' h1 ((snd_all e).e G m k) (sw_cell (G.nloc _ hlo)) h2) fun D σ H h => nm_read h
      | true =>
      rw [swOk, hlo] at sw
      cases e <;> try (simp [mE] at m; done)
      · rename_i elt' t it cond own
        obtain ⟨x', tg, iter, ifs, sc2', pos', e1, M⟩ := lc_shape m
        cases e1
        obtain ⟨κi, r, rfl, ki, kc, kr⟩ := lc_kind k
        have P := lc_parts (snd_all elt') (snd_all it) (snd_all cond) G M ki kc kr
        simp only [Bool.not_true, Bool.false_or, Bool.true_and, Bool.and_eq_true, Bool.not_eq_true', beq_iff_eq] at sw
        obtain ⟨s2, s3⟩ := sw
        have hloc := G.loc _ hlo
        have hsw : swapsWith (.ListComp elt [⟨tg, iter, ifs, 0⟩] sc2 pos) (some (.Name x q)) p.line X.env = pure true := sw_true G.kind hloc (by simp [s2]) s3
        have Q := ps_setLc (py := q) (spos := p) G.calm nd hi' hloc hsw P.hi (G.blkOk M.b) P.hg P.ht P.he (fold_ok (mI_set M.i))
        rw [own_map] at Q
        exact PS.imp Q fun D σ H h => lc_read (kI_kind ki) M.s (nm_read h)
    · simp [swOk, isComp] at sw
    · simp [swOk, isComp] at sw
  · have hc : isComp v = false := by simpa using hc
    exact PS.imp (ps_set nd hi' h1 ((snd_all e).e G m k) (sw_other hc _ _ _) h2) fun D σ H h => nm_read h
theorem ps_tp (G : Good T rds Y N n sc X) {e : C} {ts : Tg} {κ : OS} {p : Pos} {tg v : Expr} (m : mE T N sc e v = true) (mt : mT N sc (.tp ts) tg = true) (nt : (notTup v || inTup sc tg) = true) (k : kE rds O e = some κ) :
    PS X (.Assign [tg] v p) (tS X.K Y rd lp O (some (kT (.tp ts) κ O)) (.asg (.tp ts) e)) := by
  obtain ⟨es, kk, pp, rfl⟩ := isTp_tup (t := .tp ts) rfl mt
  have hsw : swapsWithSole [.Tuple es kk pp] v p.line X.env = pure false := sw_tup v es kk pp p.line X.env
  refine PS.imp (ps_asg ((snd_all e).e G m k) (sg_all G.hN G.nd G.calm G.lc (.tp ts) _ O κ mt) hsw (ss_in nt X.env fun x hx => G.nloc x hx)) fun D σ H ⟨B, ρ, fs, F, S, h⟩ => ?_
  simp only [evS] at h
  show tD X.K Y O e κ σ H fun y H1 => tTg X.K O (.tp ts) κ y σ H1 D.nx
  refine ⟨B, ρ, fs, F, S, h.val fun d hd v B' fp H' l o q => ?_⟩
  obtain ⟨ρ1, e1, hd⟩ := hd.noX
  refine ⟨B', ρ, fs, F, fp, d, S.mono l o, q, ?_⟩
  rw [e1]
  exact fun B2 σ' l2 S2 _ => hd B2 _ _ _ _ (l.trans l2) S2
theorem stoK_some {i nn : Nat} {κ : Option OS} {O1 : List SK} (h : stoK O i nn κ = some O1) : ∃ m r, O[i]? = some (.e (.own m)) ∧ κ = some (.own r) ∧ nn < m ∧ lentOk O = true ∧ O1 = killB (unlO i (O.set i (.e (.own (min m (r + nn + 1)))))) := by
  unfold stoK at h
  split at h
  · rename_i m r e1
    split at h
    · rename_i hn
      simp only [Bool.and_eq_true, decide_eq_true_eq] at hn
      cases h
      exact ⟨m, r, e1, rfl, hn.1, hn.2, rfl⟩
    · cases h
  · cases h
theorem tCons_one {O : List SK} {e : C} {κ : OS} {σ : L2.St} {H : Hp} {Q : List V → Hp → Prop} (h : tD X.K Y O e κ σ H fun w H1 => Q [w] H1) : tCons (tD X.K Y O e κ) tNil σ H Q := h
/-- x.append(e) -/
theorem ps_app (G : Good T rds Y N n sc X) {e : C} {i : Nat} {κ : Option OS} {O1 : List SK} {p ap cp : Pos} {o v : Expr} (mo : mName N sc i o = true) (me : mE T N sc e v = true) (hs : notStar v = true) (hl : (ap.endLine == cp.line) = true) (ke : kE rds O e = κ) (hk : stoK O i 0 κ = some O1) :
    PS X (.Expr (.Call (.Attribute o "append" ap) [v] [] cp) p) (tS X.K Y rd lp O (some O1) (.app i e)) := by
  obtain ⟨m, r, ho, rfl, hm, lo, rfl⟩ := stoK_some hk
  have star : starEach [v] X.env = [(false, eval v X.env)] := star_off hs
  obtain ⟨x0, q0, rfl, _⟩ := mName_shape mo
  refine PS.imp (ps_expr (pe_bm PySem.F.plainAttrs_list PySem.F.slot_list_append PySem.F.type_list_append mt_append (pe_nm G mo) (pa_cons ((snd_all e).e G me ke) pa_nil star) rfl (by rw [star]; rfl) hl star rfl)) fun D σ H ⟨B, ρ, fs, F, S, h⟩ => ?_
  show ∃ y, σ[i]? = some (some y) ∧ (tyV X.K "list" y H ∧ tCons (tD X.K Y O e (.own r)) tNil σ H fun ws H1 => rAppend y ws H1 fun _ H2 => D.nx σ H2)
  simp only [evS] at h
  obtain ⟨ds, ex, h⟩ := h.asL
  obtain ⟨u, G0, c0, hu, qx0, ov0, _⟩ := S.own_at (f := []) ho ex
  obtain ⟨m', rfl⟩ : ∃ m', m = m' + 1 := ⟨m - 1, by omega⟩
  obtain ⟨p0, xs0, rfl, hp0, _, _, _⟩ := qx0.wr0 ov0
  refine ⟨_, hu, .inl ⟨rfl, xs0, .of hp0⟩, tCons_one ⟨B, ρ, fs, F, S, h.val fun d hd w B1 f H1 l1 o1 q1 => ?_⟩⟩
  have S1 := S.mono l1 o1
  obtain ⟨M, hM, hMr⟩ : ∃ M, min (m' + 1) (r + 0 + 1) = M + 1 ∧ M ≤ r := ⟨min (m' + 1) (r + 0 + 1) - 1, by omega, by omega⟩
  rw [hM] at hd
  obtain ⟨B3, fs3, f3, F3, l3, S3, q3, ho3⟩ := S1.meet lo ho q1 (m := M + 1) (by omega) M hMr
  obtain ⟨u', Gc, c, hu', qx, ov, put⟩ := S3.own_at ho3 ex
  rw [hu] at hu'; cases hu'
  simp only [appD] at hd
  unfold DL.guard at hd
  split at hd
  · rename_i hlt
    have hlt := of_decide_eq_true hlt
    obtain ⟨pp, xs, e1, hp, hlen, hz, wr⟩ := qx.wr0 ov
    refine ⟨pp, xs, w, e1, rfl, hp, by rw [hlen]; exact hlt, ?_⟩
    obtain ⟨G', g, r1, o3⟩ := wr (xs ++ [w]) (ds ++ [d]) (by rw [List.length_append, List.length_singleton, hlen]; omega) (chg_app q3)
    obtain ⟨fs4, F4, S4⟩ := put G' g _ _ _ r1 o3
    rw [set_set'] at S4
    exact hd B3 _ _ _ _ (l1.trans l3) S4
  · exact hd.elim
end
end DL
set_option Elab.async false
set_option linter.all false
set_option maxRecDepth 100000
set_option maxHeartbeats 1000000
namespace DL
open PySem PySem.Spec PyProof.Rows L2
section
variable {T : Tx} {rds : Nat → Nat} {N : List Str} {n : Nat} {sc : Scope} {X : Cx} {Y : Wd} {rd : Nat} {lp : Option (List SK)} {O : List SK}
theorem Rp.list_inv {K : PySem.W.Frag} {B H : Hp} {m : Nat} {u : V} {ds : List PyData} {G : Fp} (h : Rp K B (m + 1) u (.list ds) G) : ∃ p xs Fs, u = .ref p ∧ G = (p, .lst xs) :: Fs ∧ All3 (Rp K B m) xs ds Fs := by
  rcases h with ⟨h0, _⟩ | ⟨p, xs, ds1, Fs, e1, e2, e3, hz, h⟩ | ⟨_, _, _, _, _, e2, _⟩ | ⟨_, _, _, _, _, e2, _⟩
  · cases h0
  · cases e2; exact ⟨p, xs, Fs, e1, e3, h⟩
  · cases e2
  · cases e2
/-- return e -/
theorem ps_retE (G : Good T rds Y N n sc X) {e : C} {v : Expr} {p : Pos} {κ : OS} (m : mE T N sc e v = true) (k : kE rds O e = some κ) (hr : (∃ r, κ = .own r ∧ rd ≤ r) ∨ (∃ b, κ = .bor b ∧ rd = 0)) : PS X (.Return (some v) p) (tS X.K Y rd lp O none (.ret e)) := by
  refine PS.imp (ps_ret ((snd_all e).e G m k)) fun D σ H ⟨B, ρ, fs, F, S, h⟩ => ?_
  show tD X.K Y O e κ σ H D.rt
  simp only [evS] at h
  rcases hr with ⟨r, rfl, hr⟩ | ⟨b, rfl, rfl⟩
  · refine ⟨B, ρ, fs, F, S, h.val fun d hd v B' fp H' l o q => ?_⟩
    obtain ⟨B2, f2, l2, o2, q2⟩ := Rp.weak hr q o
    exact hd v B2 f2 _ H' (l.trans l2) o2 q2
  · refine ⟨B, ρ, fs, F, S, h.val fun d hd v B' fp H' l o q => ?_⟩
    exact hd v H' [] [] H' (l.trans o.le) (Ov.nil H') ⟨rfl, q.2.dq o.le⟩
/-- return x, with what x owns -/
theorem ps_retV (G : Good T rds Y N n sc X) {i m : Nat} {v : Expr} {p : Pos} (mo : mE T N sc (.var i) v = true) (ho : O[i]? = some (.e (.own m))) (hr : rd ≤ m) : PS X (.Return (some v) p) (tS X.K Y rd lp O none (.ret (.var i))) := by
  have mo : mName N sc i v = true := by
    cases v <;> try (simp [mE] at mo; done)
    simpa [mE, mName] using mo
  refine PS.imp (ps_ret (pe_nm G mo)) fun D σ H ⟨B, ρ, fs, F, S, h⟩ => ?_
  show ∃ y, σ[i]? = some (some y) ∧ D.rt y H
  have h' : OutS X.K Y rd D lp none B ((getS ρ i).go fun d => .ret d) := by
    simp only [evS, evE] at h
    exact h
  obtain ⟨d, ex, hd⟩ := h'.getS
  obtain ⟨u, Gc, c, hu, q, ov, _⟩ := S.own_at (f := []) ho ex
  refine ⟨u, hu, ?_⟩
  obtain ⟨B2, f2, l2, o2, q2⟩ := Rp.weak hr q ov
  exact hd u B2 f2 _ H l2 o2 q2
theorem ps_expr' (G : Good T rds Y N n sc X) {e : C} {v : Expr} {p : Pos} {κ : OS} (m : mE T N sc e v = true) (hc : isComp v = false) (k : kE rds O e = some κ) : PS X (.Expr v p) (tS X.K Y rd lp O (some O) (.expr e)) := by
  refine PS.imp (ps_expr ((snd_all e).e G m k) (sw_other hc none p.line X.env)) fun D σ H ⟨B, ρ, fs, F, S, h⟩ => ?_
  show tD X.K Y O e κ σ H fun _ H1 => D.nx σ H1
  simp only [evS] at h
  refine ⟨B, ρ, fs, F, S, h.opd fun d hd v B' H' l o q => ?_⟩
  exact hd B' _ _ _ _ l (S.mono0 l o)
end
end DL
set_option Elab.async false
set_option linter.all false
set_option maxRecDepth 100000
set_option maxHeartbeats 2000000
namespace DL
open PySem PySem.Spec PyProof.Rows L2
theorem hdl_nx : ∀ {hs : List (Str × Nat × HE)} {c : Str} {i : PyData} {ρ : En}, hdl hs c i ≠ .nx ρ
  | [], _, _, _ => fun z => nomatch z
  | (x, _, h) :: r, c, i, ρ => by
    unfold hdl
    split
    · intro z
      cases h with
      | at_ => cases z
      | tupS s => cases z
      | obj => cases i <;> cases z
    · exact hdl_nx (hs := r)
section
variable {rds : Nat → Nat} {rd : Nat} {Φ : Nat → List PyData → R PyData}
theorem go_nx {α : Type} {r : R α} {f : α → Res} {ρ : En} (h : r.go f = .nx ρ) : ∃ a, r = .ok a ∧ f a = .nx ρ := by
  cases r with
  | ok a => exact ⟨a, rfl, h⟩
  | exc c i => cases h
  | stuck => cases h
theorem nofall : ∀ {a : S} {lp : Option (List SK)} {O : List SK}, chkS rds rd lp a O = some none → ∀ ρ ρ', evS Φ a ρ ≠ .nx ρ'
  | .nil, lp, O, h => by simp [chkS] at h
  | .seq a b, lp, O, h => by
    intro ρ ρ' e
    simp only [chkS] at h
    simp only [evS] at e
    cases ea : evS Φ a ρ with
    | nx ρ1 =>
      rw [ea] at e
      split at h
      · exact nofall (a := b) h ρ1 ρ' e
      · rename_i h1; exact nofall (a := a) h1 ρ ρ1 ea
      · cases h
    | _ => rw [ea] at e; cases e
  | .fgt l, lp, O, h => by simp [chkS] at h
  | .frz n l, lp, O, h => by simp only [chkS] at h; split at h <;> simp at h
  | .asg t e, lp, O, h => by simp only [chkS] at h; split at h <;> simp at h
  | .app i e, lp, O, h => by simp only [chkS] at h; (repeat' (split at h)) <;> simp at h
  | .ife c a b, lp, O, h => by
    intro ρ ρ' e
    simp only [chkS] at h
    simp only [evS] at e
    obtain ⟨x, _, e⟩ := go_nx e
    split at h
    · split at h
      · rename_i x1 y1 h1 h2
        have both : x1 = none ∧ y1 = none := by
          unfold mergeF at h
          split at h
          · cases h; exact ⟨rfl, rfl⟩
          · cases h
          · split at h <;> cases h
        obtain ⟨rfl, rfl⟩ := both
        cases x with
        | true => exact nofall (a := a) h1 ρ ρ' e
        | false => exact nofall (a := b) h2 ρ ρ' e
      · cases h
    · cases h
  | .for_ t it b, lp, O, h => by simp only [chkS] at h; (repeat' (split at h)) <;> simp at h
  | .ret e, lp, O, h => by intro ρ ρ' z; simp only [evS] at z; obtain ⟨_, _, z⟩ := go_nx z; cases z
  | .retN, lp, O, h => by intro ρ ρ' z; simp only [evS] at z; cases z
  | .brk, lp, O, h => by intro ρ ρ' z; simp only [evS] at z; cases z
  | .cnt, lp, O, h => by intro ρ ρ' z; simp only [evS] at z; cases z
  | .pas, lp, O, h => by simp [chkS] at h
  | .nev, lp, O, h => by intro ρ ρ' z; simp only [evS] at z; cases z
  | .rse x e, lp, O, h => by intro ρ ρ' z; simp only [evS] at z; obtain ⟨_, _, z⟩ := go_nx z; cases z
  | .try_ b hs, lp, O, h => by
    intro ρ ρ' z
    simp only [chkS] at h
    split at h
    · simp only [evS] at z
      cases e : evS Φ b ρ with
      | nx ρ1 => exact nofall (a := b) h ρ ρ1 e
      | exc c i => rw [e] at z; exact hdl_nx z
      | _ => rw [e] at z; cases z
    · cases h
  | .expr e, lp, O, h => by simp only [chkS] at h; split at h <;> simp at h
end
section
variable {K : PySem.W.Frag} {Y : Wd} {rd : Nat} {D : Ends} {lp : Option (List SK)} {B : Hp} {O O1 O2 : List SK} {ρ : En}
theorem OutS.wk {r : Res} (w : wkA O1 O2 = true) (h : OutS K Y rd D lp (some O2) B r) : OutS K Y rd D lp (some O1) B r := by
  cases r with
  | nx ρ' =>
    intro B' σ' fs' F' H' l S
    obtain ⟨B2, fs2, F2, l2, S2⟩ := S.weak w
    exact h B2 σ' fs2 F2 H' (l.trans l2) S2
  | _ => exact h
theorem OutS.off {r : Res} {O' : Option (List SK)} (w : ∀ ρ, r ≠ .nx ρ) (h : OutS K Y rd D lp O' B r) : OutS K Y rd D lp none B r := by
  cases r with
  | nx ρ' => exact absurd rfl (w ρ')
  | _ => exact h
theorem OutS.merge {x y z : Option (List SK)} (m : mergeF x y = some z) {r : Res} (nx : x = none → ∀ ρ, r ≠ .nx ρ) (h : OutS K Y rd D lp z B r) : OutS K Y rd D lp x B r := by
  unfold mergeF at m
  split at m
  · exact OutS.off (nx rfl) h
  · cases m; exact h
  · split at m
    · rename_i w
      simp only [Bool.and_eq_true] at w
      cases m
      exact OutS.wk w.1 h
    · cases m
theorem OutS.merge' {x y z : Option (List SK)} (m : mergeF x y = some z) {r : Res} (nx : y = none → ∀ ρ, r ≠ .nx ρ) (h : OutS K Y rd D lp z B r) : OutS K Y rd D lp y B r := by
  unfold mergeF at m
  split at m
  · cases m; exact h
  · exact OutS.off (nx rfl) h
  · split at m
    · rename_i w
      simp only [Bool.and_eq_true] at w
      cases m
      exact OutS.wk w.2 h
    · cases m
end
section
variable {T : Tx} {rds : Nat → Nat} {N : List Str} {n : Nat} {sc : Scope} {X : Cx} {Y : Wd} {rd : Nat} {lp : Option (List SK)} {O : List SK}
theorem ps_ifS (G : Good T rds Y N n sc X) {c : C} {a b : DL.S} {x : Expr} {p q : List Stmt} {pos : Pos} {κ : OS} {r1 r2 O' : Option (List SK)} (mc : mE T N sc c x = true) (kc : kE rds O c = some κ) (c1 : chkS rds rd lp a O = some r1) (c2 : chkS rds rd lp b O = some r2) (hm : mergeF r1 r2 = some O')
    (ha : PSs X p (tS X.K Y rd lp O r1 a)) (hb : PSs X q (tS X.K Y rd lp O r2 b)) : PS X (.If x p q pos) (tS X.K Y rd lp O O' (.ife c a b)) := by
  refine PS.imp (ps_if ((snd_all c).t G mc kc) ha hb) fun D σ H ⟨B, ρ, fs, F, S, h⟩ => ?_
  show tDT X.K Y O c σ H fun k H1 => if k = true then tS X.K Y rd lp O r1 a D σ H1 else tS X.K Y rd lp O r2 b D σ H1
  simp only [evS] at h
  obtain ⟨h1, h2, h3⟩ := h.go
  refine ⟨B, ρ, fs, F, S, OutT.of h1 (fun c i e => h2 c i e σ) fun k ek B1 H1 l1 o1 => ?_⟩
  have g := (h3 k ek).mono l1
  cases k with
  | true =>
    rw [if_pos rfl] at g ⊢
    exact ⟨B1, ρ, fs, F, S.mono0 l1 o1, g.merge hm fun e ρ' => by subst e; exact nofall c1 ρ ρ'⟩
  | false =>
    rw [if_neg Bool.false_ne_true] at g ⊢
    exact ⟨B1, ρ, fs, F, S.mono0 l1 o1, g.merge' hm fun e ρ' => by subst e; exact nofall c2 ρ ρ'⟩
/-- one turn's end -/
theorem turn_out {K : PySem.W.Frag} {D : Ends} {B : Hp} {I : List SK} {r : Option (List SK)} {z : Res} {f : En → Res} {Nx : L2.St → Hp → Prop} (h : OutS K Y rd D lp (some I) B (match z with
      | .nx ρ2 => f ρ2
      | .cnt ρ2 => f ρ2
      | .brk ρ2 => .nx ρ2
      | r => r)) (bt : backTo? I r = true) (nx : r = none → ∀ ρ, z ≠ .nx ρ)
    (again : ∀ ρ1 B' σ' fs' F' H', Le B B' → Sta K B' I ρ1 σ' fs' F' H' → OutS K Y rd D lp (some I) B (f ρ1) → Nx σ' H') : OutS K Y rd { D with nx := Nx, ct := Nx, bk := D.nx } (some I) r B z := by
  cases z with
  | nx ρ2 =>
    cases r with
    | none => exact absurd rfl (nx rfl ρ2)
    | some O1 =>
      intro B' σ' fs' F' H' l S
      obtain ⟨B2, fs2, F2, l2, S2⟩ := S.weak (show wkA O1 I = true from bt)
      exact again ρ2 B2 σ' fs2 F2 H' (l.trans l2) S2 h
  | cnt ρ2 => exact fun B' σ' fs' F' H' l S => again ρ2 B' σ' fs' F' H' l S h
  | brk ρ2 => exact fun B' σ' fs' F' H' l S => h B' σ' fs' F' H' l S
  | ret d => exact h
  | exc c i => exact h
  | stuck => exact h
theorem ps_forS (G : GS T rds Y N n sc X) {t : Tg} {it : C} {b : DL.S} {tg x : Expr} {body : List Stmt} {pos : Pos} {I : List SK} {κ : OS} {r : Option (List SK)} (mt : mT N sc t tg = true) (nt : needT it = true → isTp t = true) (mi : mI T N sc it x = true)
    (ki : kI rds I it = some κ) (w : wkA O I = true) (fr : frI rds I it = true) (cb : chkS rds rd (some I) b (kT t κ I) = some r) (bt : backTo? I r = true) (hb : PSs X body (tS X.K Y rd (some I) (kT t κ I) r b)) :
    PS X (.For tg x body [] pos) (tS X.K Y rd lp O (some I) (.for_ t it b)) := by
  refine PS.imp (ps_for G.po G.g.calm ((snd_all it).i (tg := tg) G.g mi ki (fun h => isTp_tup (nt h) mt)) (sg_all G.g.hN G.g.nd G.g.calm G.g.lc t tg I κ mt) hb (fold_ok (mI_set mi))) fun D σ H ⟨B, ρ, fs, F, S, h⟩ => ?_
  obtain ⟨B0, fs0, F0, l0, S0⟩ := S.weak w
  have h := h.mono l0
  simp only [evS] at h
  obtain ⟨h1, h2, h3⟩ := h.go
  refine ⟨B0, ρ, fs0, F0, S0, ?_⟩
  rw [fr]
  cases ei : evI Y.Φ it ρ with
  | stuck => exact absurd ei h1
  | exc c i => exact h2 c i ei σ
  | ok ds =>
    have hd := h3 ds ei
    intro hz J B1 H1 l1 o1 isit
    have isit : IsIt X.K κ J ds B1 [] := isit
    refine ⟨fun i m σ H => m = ds.length - i ∧ i ≤ ds.length ∧ ∃ B2 ρ2 fs2 F2, Le B1 B2 ∧ Sta X.K B2 I ρ2 σ fs2 F2 H ∧ OutS X.K Y rd D lp (some I) B2 (forF (bindT t) (evS Y.Φ b) (ds.drop i) ρ2), ?_, ?_⟩
    · refine ⟨ds.length, by simp, Nat.zero_le _, B1, ρ, fs0, F0, Le.refl _, S0.mono0 l1 o1, ?_⟩
      rw [List.drop_zero]
      exact hd.mono l1
    · rintro i m σ2 H2 ⟨rfl, hi, B2, ρ2, fs2, F2, l2, S2, h2⟩
      obtain ⟨stop, item⟩ := isit B2 (fs2.flatten ++ F2) H2 l2 (fun p q => nomatch q) S2.ov
      by_cases hlt : i < ds.length
      · refine .inr ?_
        have hdi : ds[i]? = some ds[i] := List.getElem?_eq_getElem hlt
        obtain ⟨go, yl⟩ := item i _ hdi
        rw [List.drop_eq_getElem_cons hlt] at h2
        simp only [forF] at h2
        refine ⟨go, fun σ' H' => ∃ B3 ρ3 fs3 F3, Le B1 B3 ∧ Sta X.K B3 I ρ3 σ' fs3 F3 H' ∧ OutS X.K Y rd D lp (some I) B3 (forF (bindT t) (evS Y.Φ b) (ds.drop (i + 1)) ρ3), fun σ' H' ⟨B3, ρ3, fs3, F3, l3, S3, q3⟩ => ⟨ds.length - (i + 1), by omega, rfl, hlt, B3, ρ3, fs3, F3, l3, S3, q3⟩, fun xv H3 hy => ?_⟩
        obtain ⟨B3, l3, o3, q3⟩ := yl xv H3 hy
        have S3 := S2.mono0 l3 o3
        obtain ⟨ρ4, e4, h4⟩ := h2.noX
        refine ⟨B3, ρ2, fs2, F2, [], ds[i], S3, ?_, ?_⟩
        · rcases kI_kind ki with rfl | ⟨bb, rfl⟩
          · exact ⟨rfl, q3⟩
          · exact ⟨rfl, q3⟩
        · rw [e4]
          intro B5 σ5 l5 S5 _
          refine ⟨B5, ρ4, _, _, S5, turn_out (h4.mono (l3.trans l5)) bt (fun e ρ' => by subst e; exact nofall cb ρ4 ρ') (fun ρ6 B6 σ6 fs6 F6 H6 l6 S6 z => ?_)⟩
          exact ⟨B6, ρ6, fs6, F6, (((l2.trans l3).trans l5).trans l6), S6, z.mono l6⟩
      · have e : i = ds.length := by omega
        subst e
        rw [List.drop_length] at h2
        exact .inl ⟨stop, h2 B2 _ _ _ _ (Le.refl _) S2⟩
theorem tS_stuck {a : DL.S} {O' : Option (List SK)} {D : Ends} {σ : L2.St} {H : Hp} (e : ∀ ρ, evS Y.Φ a ρ = .stuck) (h : tS X.K Y rd lp O O' a D σ H) : False := by
  obtain ⟨B, ρ, fs, F, S, h⟩ := h
  rw [e] at h
  exact h
theorem ps_jmp {a : DL.S} {I : List SK} (w : wkA O I = true) {D : Ends} {σ : L2.St} {H : Hp} :
    (tS X.K Y rd (some I) O none .brk D σ H → D.bk σ H) ∧ (tS X.K Y rd (some I) O none .cnt D σ H → D.ct σ H) := by
  constructor
  · rintro ⟨B, ρ, fs, F, S, h⟩
    obtain ⟨B2, fs2, F2, l2, S2⟩ := S.weak w
    exact h B2 σ fs2 F2 H l2 S2
  · rintro ⟨B, ρ, fs, F, S, h⟩
    obtain ⟨B2, fs2, F2, l2, S2⟩ := S.weak w
    exact h B2 σ fs2 F2 H l2 S2
/-- a ghost ahead of the rest -/
theorem pss_ghost {a b : DL.S} {O1 : List SK} {O' : Option (List SK)} {sts : List Stmt} (g : ∀ {D : Ends} {σ : L2.St} {H : Hp}, tS X.K Y rd lp O O' (.seq a b) D σ H → tS X.K Y rd lp O1 O' b D σ H) (h : PSs X sts (tS X.K Y rd lp O1 O' b)) : PSs X sts (tS X.K Y rd lp O O' (.seq a b)) :=
  PSs.imp h fun D σ H q => g q
theorem ghost_fgt {b : DL.S} {l : List Nat} {O' : Option (List SK)} {D : Ends} {σ : L2.St} {H : Hp} (h : tS X.K Y rd lp O O' (.seq (.fgt l) b) D σ H) : tS X.K Y rd lp (wipeO O l) O' b D σ H := by
  obtain ⟨B, ρ, fs, F, S, h⟩ := h
  obtain ⟨fs', F', S'⟩ := S.fgt l
  exact ⟨B, _, fs', F', S', h⟩
theorem ghost_frz {b : DL.S} {m : Nat} {l : List Nat} {O' : Option (List SK)} (w : wkA O (frzO m O l) = true) {D : Ends} {σ : L2.St} {H : Hp} (h : tS X.K Y rd lp O O' (.seq (.frz m l) b) D σ H) : tS X.K Y rd lp (frzO m O l) O' b D σ H := by
  obtain ⟨B, ρ, fs, F, S, h⟩ := h
  obtain ⟨B', fs', F', l, S'⟩ := S.weak w
  exact ⟨B', ρ, fs', F', S', h.mono l⟩
theorem pss_seq {a b : DL.S} {st : Stmt} {sts : List Stmt} {r O' : Option (List SK)} (ca : chkS rds rd lp a O = some r) (h1 : PS X st (tS X.K Y rd lp O r a)) (h2 : ∀ O1, r = some O1 → PSs X sts (tS X.K Y rd lp O1 O' b)) (hr : r = none → O' = none) : PSs X (st :: sts) (tS X.K Y rd lp O O' (.seq a b)) := by
  cases r with
  | none =>
    obtain rfl := hr rfl
    refine PSs.imp (pss_cons h1 (pss_never (sts := sts))) fun D σ H ⟨B, ρ, fs, F, S, h⟩ => ?_
    refine ⟨B, ρ, fs, F, S, ?_⟩
    simp only [evS] at h
    cases ea : evS Y.Φ a ρ with
    | nx ρ1 => exact absurd ea (nofall ca ρ ρ1)
    | _ => rw [ea] at h; exact h
  | some O1 =>
    refine PSs.imp (pss_cons h1 (h2 O1 rfl)) fun D σ H ⟨B, ρ, fs, F, S, h⟩ => ?_
    refine ⟨B, ρ, fs, F, S, ?_⟩
    simp only [evS] at h
    cases ea : evS Y.Φ a ρ with
    | nx ρ1 =>
      rw [ea] at h
      exact fun B' σ' fs' F' H' l S' => ⟨B', ρ1, fs', F', S', OutS.mono l h⟩
    | _ => rw [ea] at h; exact h
end
end DL
set_option Elab.async false
set_option linter.all false
set_option maxRecDepth 100000
set_option maxHeartbeats 2000000
namespace DL
open PySem PySem.Spec PyProof.Rows L2
section
variable {T : Tx} {rds : Nat → Nat} {N : List Str} {n : Nat} {sc : Scope} {X : Cx} {Y : Wd} {rd : Nat} {lp : Option (List SK)} {O : List SK}
/-- raise x(e) -/
theorem ps_rse (G : Good T rds Y N n sc X) {x : Str} {e : C} {v : Expr} {κ : OS} {p1 p2 p3 : Pos} (hg : isGlb (lk sc x) = true) (hn : okName x = true) (hc : T.cls.contains x = true) (m : mE T N sc e v = true) (hs : notStar v = true) (k : kE rds O e = some κ) :
    PS X (.Raise (some (.Call (.Name x p1) [v] [] p2)) none p3) (tS X.K Y rd lp O none (.rse x e)) := by
  have ne : T.cls ≠ [] := by
    intro z
    rw [z] at hc
    cases hc
  obtain ⟨D0, fI, F, all⟩ := G.hl.fn ne
  obtain ⟨C, hcl, hm, HC, _⟩ := all x hc
  have star : starEach [v] X.env = [(false, eval v X.env)] := star_off hs
  refine PS.imp (ps_hall G.calm G.tk F HC (by have := G.room.dp; omega) (pa_cons ((snd_all e).e G m k) pa_nil star) (G.gl _ hg) hm (G.hl.sup ne) (okName3 hn).1 star) fun D σ H ⟨B, ρ, fs, F', S, h⟩ => ?_
  simp only [evS] at h
  refine tCons_one ⟨B, ρ, fs, F', S, h.opd fun d hd w B1 H1 l1 o1 q1 => ⟨w, rfl, fun dd fresh => ?_⟩⟩
  have q2 : Dq X.K H1 w d := q1.dq o1.le
  have lu : Le H1 (upd H1 dd (.xd [(("at" : Str), w)])) := le_new fresh _
  exact hd σ C dd w _ ((l1.trans o1.le).trans lu) hcl upd_same (q2.le lu)
/-- e.at, e the error of the suite, whatever class of ours it is -/
def tAtE (K : PySem.W.Frag) (a : Addr) (cls : Value) (d : Option Addr) (te : TE) : TE := fun σ H Q => ∃ C, XfC K C ∧ PySem.W.findIn K (.ref C) "at" = some none ∧ tXf a cls d C "at" te σ H Q
theorem pe_atE {a : Addr} {oe : Obj} {cls : Value} {d : Option Addr} {pn : List (Addr × Obj)} {y : Str} {te : TE} {p1 pos : Pos} (hz : Zc cls d oe) (hf : ∃ vs, oe.data = .fields vs) (he : PE (X.suite a ((a, oe) :: pn)) (.Name y p1) te) :
    PE (X.suite a ((a, oe) :: pn)) (.Attribute (.Name y p1) "at" pos) (tAtE X.K a cls d te) :=
  ⟨fun pins s σ H Q I ⟨C, hx, hno, h⟩ => (pe_xf hx hno hz hf he).run pins s σ H Q I h⟩
def tHE (K : PySem.W.Frag) (i : Nat) (h : HE) (a : Addr) (cls : Value) (d : Option Addr) : TE := match h with
  | .at_ => tAtE K a cls d (tVar i)
  | .tupS s => tTup (tCons (tC (.str s)) (tCons (tAtE K a cls d (tVar i)) tNil))
  | .obj => tVar i
abbrev suiteOf (K : PySem.W.Frag) (i : Nat) (h : HE) : Suite := fun a cls d => tRet (tHE K i h a cls d)
/-- the clauses and the classes that they name -/
inductive Met (X : Cx) (T : Tx) (cl : Str → Option Addr) : List (Str × Nat × HE) → List (Value × Nat × Suite) → Prop
  | nil : Met X T cl [] []
  | cons {x : Str} {i : Nat} {h : HE} {C : Addr} {hs l} (eo : h = .obj → T.eo = true) (hc : T.cls.contains x = true) (e : cl x = some C) (hi : i < X.N.length) (r : Met X T cl hs l) : Met X T cl ((x, i, h) :: hs) ((.ref C, i, suiteOf X.K i h) :: l)
theorem mH1_shape {x : Str} {i : Nat} {h : HE} {hd : ExceptHandler} (m : mH1 T N sc (x, i, h) hd = true) : ∃ n0 v p1 p2 p3, hd = .ExceptHandler (some (.Name x p1)) (some n0) [.Return (some v) p2] p3 ∧ isGlb (lk sc x) = true ∧ okName x = true ∧ T.cls.contains x = true ∧
    N[i]? = some n0 ∧ isLoc (lk sc n0) = true ∧ okName n0 = true ∧ mHE n0 h v = true ∧ (h = .obj → T.eo = true) := by
  unfold mH1 at m
  split at m
  · simp only [Bool.and_eq_true, decide_eq_true_eq] at m
    obtain ⟨⟨⟨⟨⟨⟨⟨⟨m0, rfl⟩, m1⟩, m2⟩, m3⟩, m4⟩, m5⟩, m6⟩, m7⟩ := m
    exact ⟨_, _, _, _, _, rfl, m1, m2, m3, m4, m5, m6, m7, fun e => by subst e; exact m0⟩
  · cases m
theorem clauses_of (G : Good T rds Y N n sc X) : ∀ {hs : List (Str × Nat × HE)} {hds : List ExceptHandler}, mH T N sc hs hds = true → ∃ l, Clauses X hds l ∧ Met X T Y.cl hs l
  | [], [], _ => ⟨[], .nil, .nil⟩
  | [], _ :: _, m => by simp [mH] at m
  | _ :: _, [], m => by simp [mH] at m
  | (x, i, h) :: hs, hd :: hds, m => by
    simp only [mH, Bool.and_eq_true] at m
    obtain ⟨l, c, mt⟩ := clauses_of G m.2
    obtain ⟨n0, v, p1, p2, p3, rfl, m1, m2, m3, m4, m5, m6, m7, m8⟩ := mH1_shape m.1
    have ne : T.cls ≠ [] := by
      intro z
      rw [z] at m3
      cases m3
    obtain ⟨D0, fI, F, all⟩ := G.hl.fn ne
    obtain ⟨C, hcl, hm, HC, _⟩ := all _ m3
    have at_ : X.N[i]? = some n0 := by rw [G.hN]; exact m4
    have hi : i < X.N.length := (List.getElem?_eq_some_iff.mp at_).1
    have locn : X.env.scope.names.lookup n0 = some .local := G.loc _ m5
    refine ⟨_, .cons ⟨G.gl _ m1, (okName3 m2).1, .inl hm⟩ at_ locn (fun a oe cls d pn hz hf => ?_) c, .cons m8 m3 hcl hi mt⟩
    have hv : ∀ {q : Pos}, PE (X.suite a ((a, oe) :: pn)) (.Name n0 q) (tVar i) := fun {q} => pe_var (X := X.suite a ((a, oe) :: pn)) at_ (.inl locn) (okName3 m6).1 (okName3 m6).2.1
    cases h with
    | at_ =>
      cases v <;> try (simp [mHE] at m7; done)
      rename_i o f pos
      cases o <;> try (simp [mHE] at m7; done)
      simp only [mHE, Bool.and_eq_true, decide_eq_true_eq] at m7
      obtain ⟨rfl, rfl⟩ := m7
      exact pss_one (ps_ret (pe_atE hz hf hv))
    | tupS s =>
      simp only [mHE] at m7
      split at m7
      · simp only [Bool.and_eq_true, decide_eq_true_eq] at m7
        obtain ⟨⟨rfl, rfl⟩, rfl⟩ := m7
        exact pss_one (ps_ret (pe_tup (pa_cons pe_str (pa_cons (pe_atE hz hf hv) pa_nil (by rfl)) (by rfl))))
      · cases m7
    | obj =>
      cases v <;> try (simp [mHE] at m7; done)
      simp only [mHE, decide_eq_true_eq] at m7
      subst m7
      exact pss_one (ps_ret hv)
/-- what the clauses owe, from what the code's clauses tell -/
theorem met_owes (G : Good T rds Y N n sc X) {D : Ends} {Oo : Option (List SK)} {B : Hp} {c : Str} {i : PyData} {Cc : Addr} (hcc : Y.cl c = some Cc) : ∀ {hs : List (Str × Nat × HE)} {l : List (Value × Nat × Suite)}, Met X T Y.cl hs l → OutS X.K Y 0 D lp Oo B (hdl hs c i) →
    ∀ (σ' : L2.St) (dd : Addr) (v : V) (B' : Hp), σ'.length = X.N.length → Le B B' → B' dd = some (.xd [(("at" : Str), v)]) → Dq X.K B' v i → wClauses X.K Y.W D l (.ref Cc) (some dd) σ' B' := by
  intro hs l mt
  induction mt with
  | nil =>
    intro h σ' dd v B' _ le hd q
    exact h σ' Cc dd v B' le hcc hd q
  | @cons x k he Cx hs l heo hc e hi r ih =>
    intro h σ' dd v B' hlen le hd q
    have cc := G.hl.in_ c Cc hcc
    have ex := G.hl.ex c x cc hc Cc Cx hcc e
    refine ⟨exm x c, ex, fun b a fresh => ?_, fun b => ?_⟩
    · simp only [hdl, b, if_true] at h
      obtain ⟨D0, fI, F, all⟩ := G.hl.fn (by intro z; rw [z] at cc; cases cc)
      obtain ⟨C', hcl', _, HC, hxf⟩ := all c cc
      rw [hcc] at hcl'; cases hcl'
      have here : (σ'.set k (some (.ref a)))[k]? = some (some (.ref a)) := by
        rw [List.getElem?_set_self (by rw [hlen]; exact hi)]
      have read : ∀ {Q : VK}, Q v B' → tAtE X.K a (.ref Cc) (some dd) (tVar k) (σ'.set k (some (.ref a))) B' Q := fun {Q} z =>
        ⟨Cc, hxf, HC.noN, _, here, rfl, rfl, dd, _, v, rfl, hd, by simp [List.lookup], z⟩
      cases he with
      | at_ =>
        show tAtE X.K a (.ref Cc) (some dd) (tVar k) _ B' _
        exact read (.inl (h v B' [] [] B' le (Ov.nil B') ⟨rfl, q⟩))
      | tupS s =>
        show tTup (tCons (tC (.str s)) (tCons (tAtE X.K a (.ref Cc) (some dd) (tVar k)) tNil)) _ B' _
        refine read ⟨by rw [sizeLine_eq]; show 2 ≤ _; decide, fun p fr => ?_⟩
        have lu : Le B' (upd B' p (.tup [.str s, v])) := le_new fr _
        exact .inl (h (.ref p) _ [] [] _ (le.trans lu) (Ov.nil _) ⟨rfl, .tup (.of upd_same) (by rw [sizeLine_eq]; show 2 ≤ _; decide) (.cons (.str s) (.cons (q.le lu) .nil))⟩)
      | obj =>
        refine ⟨_, here, .inr ⟨Cc, dd, rfl, rfl, ?_⟩⟩
        have lu : Le B' (upd B' a (errO Cc dd a)) := le_new fresh _
        cases i with
        | int n =>
          have ev := q.int_inv
          subst ev
          have ne : dd ≠ a := fun z => by rw [z, fresh] at hd; cases hd
          exact h (.ref a) _ [] [] _ (le.trans lu) (Ov.nil _) ⟨rfl, .er upd_same (by rw [upd_ne ne]; exact hd) (G.hl.kx (heo rfl) c Cc cc hcc).1⟩
        | _ => exact False.elim h
    · simp only [hdl, b] at h
      exact ih h σ' dd v B' hlen le hd q
/-- W, where the slots are as many as they have to be -/
def wLen (W : WX) (n : Nat) : WX := fun cls d σ H => σ.length = n → W cls d σ H
theorem takes_len {W : WX} (tk : Takes X W) : Takes X (wLen W X.N.length) := fun u s' ⟨a, B, sI, pins, σ, H, cls, d, e, I, nb, up, sky, na, os, ag, w⟩ => tk u s' ⟨a, B, sI, pins, σ, H, cls, d, e, I, nb, up, sky, na, os, ag, w I.len⟩
theorem GS.tr (G : GS T rds Y N n sc X) {W : WX} {pn : List (Addr × Obj)} {xe : Value → Shared → Prop} (tk : Takes (X.tr pn xe) W) (po : PassesOwn (model X.prog X.w) X.A X.env xe) : GS T rds { Y with W := wLen W X.N.length } N n sc (X.tr pn xe) :=
  ⟨⟨G.g.hN, G.g.nd, G.g.calm, G.g.kind, G.g.vis, G.g.lc, G.g.loc, G.g.nloc, G.g.fre, G.g.gl, G.g.room, G.g.gd, G.g.gcd, takes_len tk, G.g.fns, G.g.bl, G.g.gi, G.g.hl⟩, po, G.st, G.fr⟩
theorem ps_tryS (G : GS T rds Y N n sc X) {b : DL.S} {hs : List (Str × Nat × HE)} {body : List Stmt} {hd : ExceptHandler} {hds : List ExceptHandler} {pos : Pos} {Oo : Option (List SK)} (hr : rd = 0) (m : mH T N sc hs (hd :: hds) = true)
    (ih : ∀ {X' : Cx} {Y' : Wd}, GS T rds Y' N n sc X' → X'.K = X.K → Y'.Φ = Y.Φ → Y'.cl = Y.cl → PSs X' body (tS X'.K Y' rd lp O Oo b)) :
    PS X (.Try body (hd :: hds) [] [] pos) (tS X.K Y rd lp O Oo (.try_ b hs)) := by
  subst hr
  obtain ⟨l, cl, mt⟩ := clauses_of G.g m
  have nd : X.N.Nodup := by rw [G.g.hN]; exact G.g.nd
  refine PS.imp (ps_clauses (tb := fun W => tS X.K { Y with W := wLen W X.N.length } 0 lp O Oo b) nd G.st G.fr G.g.tk (fun W pn xe tk po => ih (G.tr tk po) rfl rfl rfl) cl) fun D σ H ⟨B, ρ, fs, F, S, h⟩ => ?_
  refine ⟨B, ρ, fs, F, S, ?_⟩
  simp only [evS] at h
  show OutS X.K { Y with W := wLen (wClauses X.K Y.W D l) X.N.length } 0 D lp Oo B (evS Y.Φ b ρ)
  cases e : evS Y.Φ b ρ with
  | exc c i =>
    rw [e] at h
    intro σ' C dd v B' le hcc hd q hlen
    exact met_owes G.g hcc mt h σ' dd v B' hlen le hd q
  | nx ρ' => rw [e] at h; exact h
  | brk ρ' => rw [e] at h; exact h
  | cnt ρ' => rw [e] at h; exact h
  | ret d => rw [e] at h; exact h
  | stuck => rw [e] at h; exact h
end
end DL
set_option Elab.async false
set_option linter.all false
set_option maxRecDepth 100000
set_option maxHeartbeats 4000000
namespace DL
open PySem PySem.Spec PyProof.Rows L2
section
variable {T : Tx} {rds : Nat → Nat} {N : List Str} {n : Nat} {sc : Scope} {X : Cx} {Y : Wd} {rd : Nat}
theorem st_asg (G : GS T rds Y N n sc X) {t : Tg} {e : C} {lp : Option (List SK)} {O : List SK} {O' : Option (List SK)} {st : Stmt} (m : mS T N sc (.asg t e) st = true) (h : chkS rds rd lp (.asg t e) O = some O') : PS X st (tS X.K Y rd lp O O' (.asg t e)) := by
  cases st <;> try (simp [mS] at m; done)
  rename_i tgs v p
  rcases tgs with _ | ⟨tg, _ | ⟨tg2, tgs⟩⟩ <;> try (simp [mS] at m; done)
  simp only [mS, Bool.and_eq_true] at m
  obtain ⟨⟨m1, m2⟩, m3⟩ := m
  obtain ⟨κ, k, hO⟩ : ∃ κ, kE rds O e = some κ ∧ O' = some (kT t κ O) := by
    simp only [chkS] at h
    split at h
    · cases h
    · rename_i κ hk _; cases h; exact ⟨_, by assumption, rfl⟩
    · cases h
  subst hO
  cases t with
  | nm i =>
    cases tg <;> try (simp [mT] at m2; done)
    rename_i x q
    simp only [mT, Bool.and_eq_true, decide_eq_true_eq] at m2
    exact ps_nm G.g m1 m2.1 m2.2 m3 k
  | tp ts => exact ps_tp G.g m1 m2 (by simpa using m3) k
  | nil => simp at m3
  | cons _ _ => simp at m3
theorem st_app (G : GS T rds Y N n sc X) {i : Nat} {e : C} {lp : Option (List SK)} {O : List SK} {O' : Option (List SK)} {st : Stmt} (m : mS T N sc (.app i e) st = true) (h : chkS rds rd lp (.app i e) O = some O') : PS X st (tS X.K Y rd lp O O' (.app i e)) := by
  unfold mS at m
  split at m
  · simp only [Bool.and_eq_true, decide_eq_true_eq] at m
    obtain ⟨⟨⟨⟨m1, rfl⟩, m3⟩, m4⟩, m5⟩ := m
    simp only [chkS] at h
    split at h
    · rename_i O1 hk
      cases h
      exact ps_app G.g m1 m4 m5 m3 rfl hk
    · cases h
  · cases m
theorem st_ret (G : GS T rds Y N n sc X) {e : C} {lp : Option (List SK)} {O : List SK} {O' : Option (List SK)} {st : Stmt} (m : mS T N sc (.ret e) st = true) (h : chkS rds rd lp (.ret e) O = some O') : PS X st (tS X.K Y rd lp O O' (.ret e)) := by
  unfold mS at m
  split at m
  · rename_i v p
    have gen : ∀ {e : C}, mE T N sc e v = true → (match kE rds O e with
        | some (.own r) => if rd ≤ r then some (none : Option (List SK)) else none
        | some (.bor _) => if rd = 0 then some none else none
        | _ => none) = some O' → PS X (.Return (some v) p) (tS X.K Y rd lp O O' (.ret e)) := fun {e} m h => by
      split at h
      · rename_i r hk
        split at h
        · rename_i hr; cases h; exact ps_retE G.g m hk (.inl ⟨r, rfl, hr⟩)
        · cases h
      · rename_i b hk
        split at h
        · rename_i hr; cases h; exact ps_retE G.g m hk (.inr ⟨b, rfl, hr⟩)
        · cases h
      · cases h
    cases e with
    | var i =>
      simp only [chkS] at h
      split at h
      · rename_i k hk
        split at h
        · rename_i hr; cases h; exact ps_retV G.g m hk hr
        · cases h
      · rename_i b hk
        split at h
        · rename_i hr
          cases h
          exact ps_retE (κ := .bor b) G.g m (by simp only [kE, hk]) (.inr ⟨b, rfl, hr⟩)
        · cases h
      · rename_i b o hk
        split at h
        · rename_i hr
          cases h
          exact ps_retE (κ := .bor b) G.g m (by simp only [kE, hk]) (.inr ⟨b, rfl, hr⟩)
        · cases h
      · cases h
    | _ => exact gen m h
  · cases m
theorem st_expr (G : GS T rds Y N n sc X) {e : C} {lp : Option (List SK)} {O : List SK} {O' : Option (List SK)} {st : Stmt} (m : mS T N sc (.expr e) st = true) (h : chkS rds rd lp (.expr e) O = some O') : PS X st (tS X.K Y rd lp O O' (.expr e)) := by
  unfold mS at m
  split at m
  · simp only [Bool.and_eq_true, Bool.not_eq_true'] at m
    simp only [chkS] at h
    split at h
    · rename_i hl
      obtain ⟨κ, k, _⟩ := live_some hl
      cases h
      exact ps_expr' G.g m.1 m.2 k
    · cases h
  · cases m
theorem seqC {a b : DL.S} {lp : Option (List SK)} {O : List SK} {O' : Option (List SK)} (h : chkS rds rd lp (.seq a b) O = some O') : (∃ O1, chkS rds rd lp a O = some (some O1) ∧ chkS rds rd lp b O1 = some O') ∨ (chkS rds rd lp a O = some none ∧ O' = none) := by
  simp only [chkS] at h
  split at h
  · rename_i O1 hh; exact .inl ⟨O1, hh, h⟩
  · rename_i hh; cases h; exact .inr ⟨hh, rfl⟩
  · cases h
mutual
theorem st_all : ∀ (a : DL.S) {X : Cx} {Y : Wd} (G : GS T rds Y N n sc X) {lp : Option (List SK)} {O : List SK} {O' : Option (List SK)} {st : Stmt}, mS T N sc a st = true → chkS rds rd lp a O = some O' → PS X st (tS X.K Y rd lp O O' a)
  | .asg t e, X, Y, G, lp, O, O', st, m, h => st_asg G m h
  | .app i e, X, Y, G, lp, O, O', st, m, h => st_app G m h
  | .ret e, X, Y, G, lp, O, O', st, m, h => st_ret G m h
  | .expr e, X, Y, G, lp, O, O', st, m, h => st_expr G m h
  | .ife c a b, X, Y, G, lp, O, O', st, m, h => by
    unfold mS at m
    split at m
    · simp only [Bool.and_eq_true] at m
      simp only [chkS] at h
      split at h
      · rename_i hl
        obtain ⟨κ, k, _⟩ := live_some hl
        split at h
        · rename_i x y h1 h2
          exact ps_ifS G.g m.1.1 k h1 h2 h (sts_all a G m.1.2 h1) (sts_all b G m.2 h2)
        · cases h
      · cases h
    · cases m
  | .for_ t it b, X, Y, G, lp, O, O', st, m, h => by
    unfold mS at m
    split at m
    · simp only [Bool.and_eq_true, Bool.or_eq_true, Bool.not_eq_true'] at m
      obtain ⟨⟨⟨m1, m2⟩, m3⟩, m4⟩ := m
      simp only [chkS] at h
      split at h
      · rename_i κ ki
        split at h
        · rename_i w
          simp only [Bool.and_eq_true] at w
          split at h
          · rename_i r cb
            split at h
            · rename_i bt
              cases h
              exact ps_forS G m1 (fun z => m2.elim (fun q => by rw [q] at z; cases z) id) m3 ki w.1.1 w.1.2 cb bt (sts_all b G m4 cb)
            · cases h
          · cases h
        · cases h
      · cases h
    · cases m
  | .retN, X, Y, G, lp, O, O', st, m, h => by
    unfold mS at m
    split at m
    · cases h
      exact PS.imp ps_retN fun D σ H ⟨B, ρ, fs, F, S, h⟩ => h .non B [] _ H (Le.refl _) S.ov (Rp.frz .non (.inr rfl))
    · cases m
  | .brk, X, Y, G, lp, O, O', st, m, h => by
    unfold mS at m
    split at m
    · simp only [chkS] at h
      split at h
      · rename_i I
        split at h
        · rename_i w
          cases h
          exact PS.imp ps_break fun D σ H h => (ps_jmp (a := .brk) w).1 h
        · cases h
      · cases h
    · cases m
  | .cnt, X, Y, G, lp, O, O', st, m, h => by
    unfold mS at m
    split at m
    · simp only [chkS] at h
      split at h
      · rename_i I
        split at h
        · rename_i w
          cases h
          exact PS.imp ps_continue fun D σ H h => (ps_jmp (a := .cnt) w).2 h
        · cases h
      · cases h
    · cases m
  | .pas, X, Y, G, lp, O, O', st, m, h => by
    unfold mS at m
    split at m
    · cases h
      exact PS.imp ps_pass fun D σ H ⟨B, ρ, fs, F, S, h⟩ => h B σ fs F H (Le.refl _) S
    · cases m
  | .nev, X, Y, G, lp, O, O', st, m, h => ⟨fun pins s σ H D I q => (tS_stuck (fun _ => rfl) q).elim⟩
  | .rse x e, X, Y, G, lp, O, O', st, m, h => by
    unfold mS at m
    split at m
    · simp only [Bool.and_eq_true, decide_eq_true_eq] at m
      obtain ⟨⟨⟨⟨⟨rfl, m1⟩, m2⟩, m3⟩, m4⟩, m5⟩ := m
      simp only [chkS] at h
      split at h
      · rename_i hl
        obtain ⟨κ, k, _⟩ := live_some hl
        cases h
        exact ps_rse G.g m1 m2 m3 m4 m5 k
      · cases h
    · cases m
  | .try_ b hs, X, Y, G, lp, O, O', st, m, h => by
    unfold mS at m
    split at m
    · simp only [Bool.and_eq_true] at m
      simp only [chkS] at h
      split at h
      · rename_i hr
        exact ps_tryS G hr m.2 fun G' _ _ _ => sts_all b G' m.1 h
      · cases h
    · cases m
  | .nil, X, Y, G, lp, O, O', st, m, h => by simp [mS] at m
  | .seq _ _, X, Y, G, lp, O, O', st, m, h => by simp [mS] at m
  | .fgt _, X, Y, G, lp, O, O', st, m, h => by simp [mS] at m
  | .frz _ _, X, Y, G, lp, O, O', st, m, h => by simp [mS] at m
theorem sts_all : ∀ (a : DL.S) {X : Cx} {Y : Wd} (G : GS T rds Y N n sc X) {lp : Option (List SK)} {O : List SK} {O' : Option (List SK)} {sts : List Stmt}, mB T N sc a sts = true → chkS rds rd lp a O = some O' → PSs X sts (tS X.K Y rd lp O O' a)
  | .nil, X, Y, G, lp, O, O', sts, m, h => by
    cases sts with
    | cons => simp [mB] at m
    | nil =>
      cases h
      exact PSs.imp pss_nil fun D σ H ⟨B, ρ, fs, F, S, h⟩ => h B σ fs F H (Le.refl _) S
  | .nev, X, Y, G, lp, O, O', sts, m, h => ⟨fun pins s σ H D I q => (tS_stuck (fun _ => rfl) q).elim⟩
  | .seq a b, X, Y, G, lp, O, O', sts, m, h => by
    cases a with
    | fgt l =>
      simp only [mB] at m
      simp only [chkS] at h
      exact pss_ghost ghost_fgt (sts_all b G m h)
    | frz k l =>
      simp only [mB] at m
      simp only [chkS] at h
      split at h
      · rename_i O1 hh
        split at hh
        · rename_i w
          cases hh
          exact pss_ghost (ghost_frz w) (sts_all b G m h)
        · cases hh
      · rename_i hh; split at hh <;> cases hh
      · cases h
    | _ =>
      cases sts with
      | nil => simp [mB] at m
      | cons st sts =>
        simp only [mB, Bool.and_eq_true] at m
        rcases seqC h with ⟨O1, hh, h⟩ | ⟨hh, rfl⟩
        · exact pss_seq hh (st_all _ G m.1 hh) (fun O2 e => by cases e; exact sts_all b G m.2 h) (fun e => by cases e)
        · exact pss_seq hh (st_all _ G m.1 hh) (fun O2 e => by cases e) (fun _ => rfl)
  | .asg _ _, X, Y, G, lp, O, O', sts, m, h | .app _ _, X, Y, G, lp, O, O', sts, m, h
  | .ret _, X, Y, G, lp, O, O', sts, m, h | .expr _, X, Y, G, lp, O, O', sts, m, h | .ife _ _ _, X, Y, G, lp, O, O', sts, m, h | .for_ _ _ _, X, Y, G, lp, O, O', sts, m, h | .retN, X, Y, G, lp, O, O', sts, m, h
  | .brk, X, Y, G, lp, O, O', sts, m, h | .cnt, X, Y, G, lp, O, O', sts, m, h | .rse _ _, X, Y, G, lp, O, O', sts, m, h | .try_ _ _, X, Y, G, lp, O, O', sts, m, h | .pas, X, Y, G, lp, O, O', sts, m, h | .fgt _, X, Y, G, lp, O, O', sts, m, h | .frz _ _, X, Y, G, lp, O, O', sts, m, h => by simp [mB] at m
end
end
end DL
set_option Elab.async false
set_option linter.all false
set_option maxRecDepth 100000
set_option maxHeartbeats 2000000
namespace DL
open PySem PySem.Spec PyProof.Rows L2
/-- the kinds at a def's entry -/
def ent (F : Fn) : List SK := List.replicate F.np (.e (.own 0)) ++ List.replicate (F.ns - F.np) (.e .dead)
theorem slots_entry {K : PySem.W.Frag} {H : Hp} : ∀ {vs : List V} {ds : List PyData} (k : Nat), DqL K H vs ds → Slots K H H (List.replicate ds.length (.e (.own 0)) ++ List.replicate k (.e .dead)) (ds.map some ++ List.replicate k none) (vs.map some ++ List.replicate k none) (List.replicate (ds.length + k) [])
  | _, _, k, .nil => by
    rw [List.length_nil, Nat.zero_add]
    induction k with
    | zero => exact .nil
    | succ k ih => exact .cons rfl ih
  | _, _, k, @DqL.cons _ _ v vs d ds r t => by
    have ih := slots_entry k t
    have e : (d :: ds).length + k = (ds.length + k) + 1 := by simp; omega
    rw [e]
    exact .cons ⟨v, rfl, rfl, r⟩ ih
theorem flat_nil (k : Nat) : (List.replicate k ([] : Fp)).flatten = [] := by
  induction k with
  | zero => rfl
  | succ k ih => rw [List.replicate_succ, List.flatten_cons, ih]; rfl
/-- what a def's body owes, from the def's promise -/
theorem entry_out {K : PySem.W.Frag} {cl : Str → Option Addr} {T : List Fn} {k f : Nat} {F : Fn} {H : Hp} {ds : List PyData} {r : Option (List SK)} {Q : VK} {E : XK} (hF : T[f]? = some F) {Y : Wd} (hY : Y = ⟨run T k, cl, fun c d _ H => E c d H⟩)
    (h : match run T (k + 1) f ds with
      | .ok d => ∀ v B' f H', Le H B' → Ov B' f H' → Rp K B' F.rd v d f → Q v H'
      | .exc c i => ∀ (C dd : Addr) (v : V) (B' : Hp), Le H B' → cl c = some C → B' dd = some (.xd [(("at" : Str), v)]) → Dq K B' v i → E (.ref C) (some dd) B'
      | .stuck => False)
    (c : ∀ ρ ρ', r = none → evS Y.Φ F.body ρ ≠ .nx ρ') : ds.length = F.np ∧ OutS K Y F.rd { nx := fun _ H' => Q .non H', rt := Q } none r H (evS Y.Φ F.body (ds.map some ++ List.replicate (F.ns - F.np) none)) := by
  subst hY
  have h0 : run T (k + 1) f ds = if ds.length = F.np then (match evS (run T k) F.body (ds.map some ++ List.replicate (F.ns - F.np) none) with
      | .ret d => .ok d
      | .nx _ => .ok .none
      | .exc c i => .exc c i
      | _ => .stuck) else .stuck := by
    simp only [run, hF]
    try rfl
  rw [h0] at h
  by_cases hl : ds.length = F.np
  · rw [if_pos hl] at h
    refine ⟨hl, ?_⟩
    cases ev : evS (run T k) F.body (ds.map some ++ List.replicate (F.ns - F.np) none) with
    | nx ρ' =>
      rw [ev] at h
      cases r with
      | none => exact absurd ev (c _ ρ' rfl)
      | some O1 => exact fun B' σ' fs' F' H' l S => h .non H' [] H' (l.trans S.ov.le) (Ov.nil H') (Rp.frz .non (.inr rfl))
    | ret d =>
      rw [ev] at h
      intro v B' fp cs H' l o q
      obtain ⟨B2, l2, _, o2⟩ := (o.perm List.perm_append_comm).absorb
      exact h v B2 fp H' (l.trans l2) o2 (q.le l2)
    | exc cc i =>
      rw [ev] at h
      exact fun σ' C dd v B' l h1 h2 h3 => h C dd v B' l h1 h2 h3
    | brk ρ' => rw [ev] at h; exact h.elim
    | cnt ρ' => rw [ev] at h; exact h.elim
    | stuck => rw [ev] at h; exact h.elim
  · rw [if_neg hl] at h
    exact h.elim
section
variable {P : Program} {w : World} {K : PySem.W.Frag} {mg : Str → Option Value} {base : Heap}
/-- a def by its body -/
theorem fnG_of {x qual : Str} {st : Stmt} {a : Addr} {fd : FuncData} {N ps : List Str} {k : Nat} {sp : Sp} (F : Fun K x qual st a fd) (S : FnScope N ps (defScope st))
    (size : ∀ vs H Q E, sp vs H Q E → vs.length = ps.length)
    (does : ∀ (cdv : Value) (A : Around) (fr : List Env) (st0 : Shared) (H : Hp) (vs : List V) (Q : VK) (E : XK), Room k (A.deeper (envOfC qual (defScope st) st0.heap.objs.size a cdv)) → A.guards = some [] → sp vs H Q E →
      ∃ t, PSs (cxOf (L2.CX P w) P w K mg base N qual (defScope st) a cdv A fr st0 H E) (defBody st) t ∧ t { nx := fun _ G => Q .non G, rt := Q } (L2.start N vs) H) :
    FnG P w K mg base (k + 1) a fd ps sp := by
  obtain ⟨oc, od, kV, doc, pm, an, cdv, ct, osl, rfl, lkp, cod⟩ := F.ex
  constructor
  · exact size
  intro A fr st0 H ar us vs Q E room gds en bnd rel pr
  have many := size _ _ _ _ pr
  have kin : K.In st0.heap := en.mod.kin.keeps fun b o e => And.left (en.bs b o e)
  have nolim : st0.heap.NoLimit := en.mod.nolimit.keeps fun b o e => And.left (en.bs b o e)
  have kinds : ∀ y ∈ ps.zip us, (defScope st).names.lookup y.1 = some .local ∨ ((defScope st).names.lookup y.1 = some .cell ∧ ((cellsFrom (st0.heap.objs.size + 1) (defScope st).names []).lookup y.1).isSome = true) := by
    rintro ⟨nm, v⟩ hy
    cases S.par nm (List.of_mem_zip hy).1 with
    | inl q => exact .inl q
    | inr q => exact .inr (And.intro q (PySem.W.cellsFrom_some _ _ _ (.inl q)))
  apply codeAny_call_function room.depth (kin _ _ lkp) rfl S.co S.gen rfl (PySem.W.codeRec_of kin cod)
  apply bnd
  apply wpAny_newFunctionEnv_cells S.kind kinds
  intro env ee st1 into
  subst ee
  refine And.intro (nolim.keeps into.toInCall.keep) (codeAny_func ?_)
  obtain ⟨t, run_t, post⟩ := does cdv A fr st0 H vs Q E (room.deeper _) gds pr
  have inv0 := inv_start (CX := L2.CX P w) (qual := qual) (f := a) (cd := cdv) (E := E) S room.hd en many rel into
  refine wpAny_mono (run_t.run [] st1 (L2.start N vs) H _ inv0 post) ?_ (fun e z he => he)
  intro fl z hz
  cases fl with
  | ret u =>
    obtain ⟨v, τ, G, J, rv, q⟩ := hz
    exact ⟨v, G, J.os, J.bare, J.base, J.hok, rv, q⟩
  | next =>
    obtain ⟨τ, G, J, q⟩ := hz
    exact ⟨V.non, G, J.os, J.bare, J.base, J.hok, rfl, q⟩
  | brk => obtain ⟨_, _, _, q⟩ := hz; exact q.elim
  | cont => obtain ⟨_, _, _, q⟩ := hz; exact q.elim
/-- a def's text meets its code -/
structure DefOk (T : Tx) (rds : Nat → Nat) (st : Stmt) (N ps : List Str) (F : Fn) : Prop where
  S : FnScope N ps (defScope st)
  np : ps.length = F.np
  ns : N.length = F.ns
  le : F.np ≤ F.ns
  m : mB T N (defScope st) F.body (defBody st) = true
  c : (chkS rds F.rd none F.body (ent F)).isSome = true
/-- a def stands behind the top -/
structure DefAt (K : PySem.W.Frag) (mg : Str → Option Value) (x : Str) (st : Stmt) (ps : List Str) : Prop where
  at_ : ∃ a fd, Fun K x x st a fd ∧ mg x = some (.ref a) ∧ Binds K fd ps []
def rdsOf (Fs : List Fn) (f : Nat) : Nat := match Fs[f]? with
  | some F => F.rd
  | none => 0
/-- the program: each def of the table -/
structure Prog (P : Program) (T : Tx) (Fs : List Fn) (K : PySem.W.Frag) (mg : Str → Option Value) (cl : Str → Option Addr) : Prop where
  df : ∀ (f : Nat) (x : Str), T.fn[f]? = some x → ∃ (F : Fn) (st : Stmt) (N ps : List Str), Fs[f]? = some F ∧ DefOk T (rdsOf Fs) st N ps F ∧ DefAt K mg x st ps
  bl : ∀ x, T.bl.contains x = true → mg x = none
  gcd : T.gcd = true → mg "gcd" = some (.builtin "math.gcd")
  gi : ∀ x i, T.gi.contains (x, i) = true → ∃ u, mg x = some u ∧ RelV (.int i) u
  hl : HallW T cl P K mg
theorem good_of {T : Tx} {Fs : List Fn} {cl : Str → Option Addr} (G : Prog P T Fs K mg cl) {k : Nat} {N ps : List Str} {x : Str} {sc : Scope} {a : Addr} {cdv : Value} {A : Around} {fr : List Env} {st0 : Shared} {H : Hp} {E : XK} (S : FnScope N ps sc)
    (room : Room k (A.deeper (envOfC x sc st0.heap.objs.size a cdv))) (gds : A.guards = some [])
    (fns : ∀ f x, T.fn[f]? = some x → ∃ a fd ps, mg x = some (.ref a) ∧ PySem.W.keepIn K (.ref a) = true ∧ Binds K fd ps [] ∧ FnG P w K mg base k a fd ps (spF K cl (rdsOf Fs f) (run Fs k f))) :
    GS T (rdsOf Fs) ⟨run Fs k, cl, fun c d _ H => E c d H⟩ N k sc (cxOf (L2.CX P w) P w K mg base N x sc a cdv A fr st0 H E) := by
  refine ⟨⟨rfl, S.nd, rfl, S.kind, fun y h => ?_, fun y h => ?_, fun y h => isLoc_cases h, fun y h z => ?_, fun y h => h, fun y h => isGlb_cases h, room, gds, G.gcd, takes_of rfl rfl rfl rfl, fns, G.bl, G.gi, G.hl⟩, passes_of rfl, rfl, rfl⟩
  · exact isVis_cases h
  · exact ⟨isLC_cases h, .inl rfl⟩
  · have z' : lk sc y = some .local := z
    rw [z'] at h; cases h
/-- every def keeps its promise -/
theorem all_fns {T : Tx} {Fs : List Fn} {cl : Str → Option Addr} (G : Prog P T Fs K mg cl) : ∀ (k f : Nat) (x : Str), T.fn[f]? = some x → ∃ a fd ps, mg x = some (.ref a) ∧ PySem.W.keepIn K (.ref a) = true ∧ Binds K fd ps [] ∧ ∀ base : Heap, FnG P w K mg base k a fd ps (spF K cl (rdsOf Fs f) (run Fs k f))
  | 0, f, x, hx => by
    obtain ⟨F, st, N, ps, hF, ok, ⟨a, fd, FU, hm, hb⟩⟩ := G.df f x hx
    exact ⟨a, fd, ps, hm, FU.kp, hb, fun _ => ⟨fun vs H Q E ⟨ds, _, z⟩ => z.elim, fun A fr st H ar us vs Q E _ _ _ _ _ ⟨ds, _, z⟩ => z.elim⟩⟩
  | k + 1, f, x, hx => by
    have ih := all_fns G k
    obtain ⟨F, st, N, ps, hF, ok, ⟨a, fd, FU, hm, hb⟩⟩ := G.df f x hx
    obtain ⟨r, cr⟩ := Option.isSome_iff_exists.mp ok.c
    have hrd : rdsOf Fs f = F.rd := by unfold rdsOf; rw [hF]
    rw [hrd]
    have noF : ∀ (Φ : Nat → List PyData → R PyData) (ρ ρ' : En), r = none → evS Φ F.body ρ ≠ .nx ρ' := fun Φ ρ ρ' e => by
      subst e
      exact nofall cr ρ ρ'
    refine ⟨a, fd, ps, hm, FU.kp, hb, fun base => fnG_of FU ok.S (fun vs H Q E ⟨ds, q, z⟩ => ?_) fun cdv A fr st0 H vs Q E room gds ⟨ds, q, z⟩ => ?_⟩
    · rw [q.length, (entry_out (Y := ⟨run Fs k, cl, fun c d _ H => E c d H⟩) hF rfl z (noF _)).1, ok.np]
    · obtain ⟨hl, out⟩ := entry_out (Y := ⟨run Fs k, cl, fun c d _ H => E c d H⟩) hF rfl z (noF _)
      have GG := good_of (E := E) (x := x) (a := a) (cdv := cdv) (fr := fr) (st0 := st0) (H := H) G ok.S room gds (fun f x hx => let ⟨a, fd, ps, h1, h2, h3, h4⟩ := ih f x hx; ⟨a, fd, ps, h1, h2, h3, h4 base⟩)
      refine ⟨_, sts_all F.body GG ok.m cr, H, _, List.replicate (ds.length + (F.ns - F.np)) [], [], ⟨?_, ?_, fun i b o ho => ?_⟩, out⟩
      · rw [flat_nil]; exact Ov.nil H
      · have e1 : ent F = List.replicate ds.length (.e (.own 0)) ++ List.replicate (F.ns - F.np) (.e .dead) := by unfold ent; rw [hl]
        have e2 : L2.start N vs = vs.map some ++ List.replicate (F.ns - F.np) none := by unfold L2.start; rw [ok.ns, q.length, hl]
        rw [e1, e2]
        exact slots_entry _ q
      · have mm := List.mem_of_getElem? ho
        unfold ent at mm
        simp at mm
/-- the law's call, with the script alone in sight -/
theorem law_one {k : Nat} {fa a : Addr} {fd : FuncData} {ps : List Str} {sp : Sp} {s1 : Shared} {vs : List Value} {mb : Str → Option Value} {H : Hp}
    (kin : K.In s1.heap) (gns : s1.heap.Ns mainGlobals mg) (bns : s1.heap.Ns builtinsNs mb) (boot : ∀ x : Str, x ≠ "__name__" → mb x = bootBuiltins x) (nolim : s1.heap.NoLimit) (gens : s1.gens = #[])
    (obj : s1.heap.get? a = some { cls := .type "list", data := .seq vs.toArray }) (room : Room k callerA)
    (F : ∀ bs : Heap, K.In bs → bs.Ns mainGlobals mg → FnG P w K mg bs k fa fd ps sp) (bind : BindsTo s1 fd ⟨[.ref a], []⟩ (ps.zip [.ref a]))
    (only : ∀ b, H b = none ∨ ∃ o xs, H b = some (.frz o (.lst xs))) (hok : HOk P w H s1.heap) (at_ : ∀ b, H b ≠ none → b = a) (off : H a ≠ none → K.lookup a = none)
    (pr : sp [.ref a] H (fun v _ => v = .bl true) fun _ _ _ => False) :
    codeAny (model P w) callerA (.call (.ref fa) ⟨[.ref a], []⟩) (fun r s' => r = .ok (.ret (.bool true)) ∧ OldK s1.heap s'.heap ∧ s'.os = s1.os ∧ AllBare s'.gens) s1 := by
  have isA : ∀ {b : Addr} {u : HO}, H b = some u → b = a := fun {b u} e => at_ b (by rw [e]; exact fun z => nomatch z)
  have free : ∀ {b : Addr}, b ≠ a → H b = none := fun {b} ne => by
    cases e : H b with
    | none => rfl
    | some u => exact absurd (isA e) ne
  have dict : ∀ {b : Addr} {o : Obj} {es : Array DictEntry} {ep : Nat}, s1.heap.get? b = some o → o.data = .dict es ep → H b = none := fun {b o es ep} e d => free (by
    rintro rfl
    rw [obj] at e
    cases e
    exact nomatch d)
  have nsb : ∀ {b : Addr} {m : Str → Option Value}, s1.heap.Ns b m → (hidT s1.heap H).Ns b m := by
    rintro b m ⟨o, es, ep, e, d, rest⟩
    exact ⟨o, es, ep, hidT_get e (dict e d), d, rest⟩
  have kinb : K.In (hidT s1.heap H) := by
    intro b o e
    refine hidT_get (kin b o e) ?_
    cases q : H b with
    | none => rfl
    | some u =>
      obtain rfl := isA q
      rw [off (by rw [q]; exact fun z => nomatch z)] at e
      cases e
  obtain ⟨mc, l1, l2⟩ := nolim
  have md : Mod K mg (hidT s1.heap H) := ⟨kinb, nsb gns, ⟨mb, nsb bns, boot⟩, ⟨mc, nsb l1, l2⟩⟩
  have nofr : ∀ b, b ∈ frs ([] : List Env) → H b = none := fun b z => (nomatch (show b ∈ ([] : List Addr) from z))
  have en : Env0 P w K mg (hidT s1.heap H) callerA [] s1 H := ⟨rfl, md, fun b o e => of_hidT e, Nat.le_of_eq (hidT_size _ _), trivial, nofr, hok, .of_eq gens⟩
  have got := (F _ kinb (nsb gns)).go callerA [] s1 H ⟨[.ref a], []⟩ [.ref a] [.ref a] _ _ room rfl en bind (.cons rfl .nil) pr
  refine codeAny_mono got ?_
  intro res z hz
  match res, hz with
  | .error e, hz =>
    obtain ⟨_, _, _, _, _, _, _, _, _, _, _, _, no⟩ := hz
    exact no.elim
  | .ok .next, hz => exact False.elim hz
  | .ok .brk, hz => exact False.elim hz
  | .ok .cont, hz => exact False.elim hz
  | .ok (.ret u), hz =>
    obtain ⟨v, G, os, bare, un, hokG, rel, isT⟩ := hz
    obtain rfl : v = .bl true := isT
    obtain rfl : u = Value.bool true := rel
    refine ⟨rfl, OldK.of_keep ?_, os, bare⟩
    intro b o e
    rcases only b with no | ⟨ob, xs, fz⟩
    · exact un.keep b o e no (fun z => nomatch (show b ∈ ([] : List Addr) from z)) (fun z => nomatch z)
    · have fz2 := un.frzs b ob _ fz
      obtain ⟨g1, _⟩ := hok b _ fz
      obtain ⟨g2, _⟩ := hokG b _ fz2
      rw [e] at g1
      cases g1
      exact g2
/-- the law's promise at the heap behind the top -/
theorem law_at {mb : Str → Option Value} {k : Nat} {fa a : Addr} {fd : FuncData} {ps : List Str} {sp : Sp} {s1 : Shared} {vs : List Value} {ns : List Int}
    (kin : K.In s1.heap) (gns : s1.heap.Ns mainGlobals mg) (bns : s1.heap.Ns builtinsNs mb) (boot : ∀ x : Str, x ≠ "__name__" → mb x = bootBuiltins x) (nolim : s1.heap.NoLimit) (gens : s1.gens = #[])
    (obj : s1.heap.get? a = some { cls := .type "list", data := .seq vs.toArray }) (are : IntsAre vs ns) (short : ns.length ≤ sizeLine) (room : Room k callerA)
    (F : ∀ bs : Heap, K.In bs → bs.Ns mainGlobals mg → FnG P w K mg bs k fa fd ps sp) (bind : BindsTo s1 fd ⟨[.ref a], []⟩ (ps.zip [.ref a]))
    (pr : ∀ H : Hp, SqL K H a (ns.map V.int) → sp [.ref a] H (fun v _ => v = .bl true) fun _ _ _ => False) :
    codeAny (model P w) callerA (.call (.ref fa) ⟨[.ref a], []⟩) (fun r s' => r = .ok (.ret (.bool true)) ∧ OldK s1.heap s'.heap ∧ s'.os = s1.os ∧ AllBare s'.gens) s1 := by
  have vals := vals_ints are
  have size := are.length
  cases lk : K.lookup a with
  | some o =>
    have e := kin a o lk
    rw [obj] at e
    cases e
    have sq : SqL K (fun _ => none) a (ns.map V.int) := .inr ⟨_, vs.toArray, _, lk, rfl, rfl, rfl, by rw [List.size_toArray, size]; exact short, by simpa using vals⟩
    exact law_one (H := fun _ => none) kin gns bns boot nolim gens obj room F bind (fun _ => .inl rfl) (fun b u z => nomatch (show (none : Option HO) = some u from z)) (fun b z => absurd rfl z) (fun z => absurd rfl z) (pr _ sq)
  | none =>
    let one : Hp := upd (fun _ => none) a (.frz { cls := .type "list", data := .seq vs.toArray } (.lst (ns.map V.int)))
    have here : one a = some (.frz { cls := .type "list", data := .seq vs.toArray } (.lst (ns.map V.int))) := upd_same
    have there : ∀ {b : Addr}, b ≠ a → one b = none := fun {b} ne => upd_ne ne
    refine law_one (H := one) kin gns bns boot nolim gens obj room F bind (fun b => ?_) (fun b u z => ?_) (fun b z => ?_) (fun _ => lk) (pr _ (.inl (.inr ⟨_, here⟩)))
    · by_cases e : b = a
      · subst e; exact .inr ⟨_, _, here⟩
      · exact .inl (there e)
    · by_cases e : b = a
      · subst e
        rw [here] at z
        cases z
        exact ⟨obj, by rw [List.length_map]; exact short, vs, _, vals, obj⟩
      · rw [there e] at z; cases z
    · exact Classical.byContradiction fun e => z (there e)
end
theorem ints_dq {K : PySem.W.Frag} {B : Hp} : ∀ ns : List Int, DqL K B (ns.map V.int) (ns.map PyData.int)
  | [] => .nil
  | n :: ns => .cons (.int n) (ints_dq ns)
theorem Rp.isTrue {K : PySem.W.Frag} {B : Hp} {n : Nat} {v : V} {f : Fp} (h : Rp K B n v (.bool true) f) : v = .bl true := by
  cases n with
  | zero => obtain ⟨_, h⟩ := h; cases h; rfl
  | succ n =>
    rcases h with ⟨_, _, h⟩ | ⟨_, _, _, _, _, e, _⟩ | ⟨_, _, _, _, _, e, _⟩ | ⟨_, _, _, _, _, e, _⟩
    · cases h; rfl
    · cases e
    · cases e
    · cases e
/-- what k_head leaves, from the law's promise -/
theorem walk_dl {l : PySem.W.OpenLaw} {n k f : Nat} {q : Program} {loose : List Str} {XP : (Str → Option Value) → Heap → Prop} {YP : World → Heap → Prop} {d : DefRec} {K : Params → PySem.W.Frag} {Fs : List Fn}
    (most : l.most = some n) (short : n ≤ sizeLine) (nodf : d.params.defaults = []) (room : Room k callerA) (kinY : ∀ (w : World) (h : Heap), YP w h → (K w.params).In h)
    (main : ∀ ns : List Int, ns.length ≤ n → run Fs k f [rdD (ns.map .int)] = .ok (.bool true))
    (F : ∀ (w : World) (mg : Str → Option Value) (h : Heap), (K w.params).In h → h.Ns mainGlobals mg → ∃ (T : Tx) (cl : Str → Option Addr), T.fn[f]? = some d.name ∧ Prog l.prog T Fs (K w.params) mg cl) :
    PySem.W.WalkO q loose XP YP l.row.toRowW d [] (fun f vs => PySem.call f vs) := by
  apply Att.attach_call most nodf
  intro w s0 s1 mg mb fa o pm cd doc a vs ns G Y ho hd hcd named obj are few gens
  have kin := kinY w _ Y
  obtain ⟨T, cl, hx, pg⟩ := F w mg _ kin G.T.g
  obtain ⟨a', fd, ps, hm, kp, bnd, fn⟩ := all_fns (P := l.prog) (w := w) pg k f d.name hx
  rw [named] at hm
  cases hm
  have pr : ∀ H : Hp, SqL (K w.params) H a (ns.map V.int) → spF (K w.params) cl (rdsOf Fs f) (run Fs k f) [.ref a] H (fun v _ => v = .bl true) fun _ _ _ => False := by
    intro H sq
    refine ⟨[rdD (ns.map .int)], .cons (.rdl sq (ints_dq ns)) .nil, ?_⟩
    rw [main ns few]
    exact fun v B' f H' _ _ r => r.isTrue
  have one : ([.ref a] : List V).length = ps.length := (fn s1.heap).len _ _ _ _ (pr (upd (fun _ => none) a (.lst (ns.map V.int))) (.of upd_same))
  refine law_at kin G.T.g G.T.b G.T.builtins G.T.nolimit gens obj are (Nat.le_trans few short) room (fun bs _ _ => fn bs) ?_ pr
  have bb := bnd s1 [.ref a] kin (by rw [List.append_nil]; exact one)
  rw [List.append_nil] at bb
  exact bb
section
variable {K : PySem.W.Frag} {mg : Str → Option Value} {h : Heap}
theorem defAt_mk (X : K.In h) (G : h.Ns mainGlobals mg) {x : Str} {st : Stmt} {ps : List Str} {a : Addr} {oc kV doc pm cdv ct : Value} {od an : Option Addr} {osl : Array (Option Value)} (n : PySem.W.nsIn K mainGlobals x = some (some (.ref a)))
    (l : K.lookup a = some ⟨oc, od, .func (PySem.W.fnOf x x (defArgs st) (defBody st) (defScope st) .none kV doc pm an cdv ct), osl⟩) (c : PySem.W.codeIn K cdv x = true) (k : PySem.W.keepIn K (.ref a) = true)
    (b : ∀ (kV doc pm : Value) (an : Option Addr) (cdv ct : Value) (us : List Value), us.length = ps.length → bindArgs (PySem.W.fnOf x x (defArgs st) (defBody st) (defScope st) .none kV doc pm an cdv ct) ⟨us, []⟩ = pure (ps.zip us)) : DefAt K mg x st ps :=
  ⟨a, _, fun_mk l c k, PySem.W.mg_of X G n, (fun_mk l c k).binds b⟩
theorem with_def {goal : Prop} {x : Str} {st : Stmt} {ps : List Str} (X : K.In h) (G : h.Ns mainGlobals mg) {a : Addr} {oc kV doc pm cdv ct : Value} {od an : Option Addr} {osl : Array (Option Value)} (n : PySem.W.nsIn K mainGlobals x = some (some (.ref a)))
    (l : K.lookup a = some ⟨oc, od, .func (PySem.W.fnOf x x (defArgs st) (defBody st) (defScope st) .none kV doc pm an cdv ct), osl⟩) (c : PySem.W.codeIn K cdv x = true) (k : PySem.W.keepIn K (.ref a) = true)
    (b : ∀ (kV doc pm : Value) (an : Option Addr) (cdv ct : Value) (us : List Value), us.length = ps.length → bindArgs (PySem.W.fnOf x x (defArgs st) (defBody st) (defScope st) .none kV doc pm an cdv ct) ⟨us, []⟩ = pure (ps.zip us))
    (r : DefAt K mg x st ps → goal) : goal := r (defAt_mk X G n l c k b)
theorem int_mk (X : K.In h) (G : h.Ns mainGlobals mg) {x : Str} {i : Int} {u : Value} (n : PySem.W.nsIn K mainGlobals x = some (some u)) (r : RelV (.int i) u) : ∃ u, mg x = some u ∧ RelV (.int i) u := ⟨_, PySem.W.mg_of X G n, r⟩
def Nones (mg : Str → Option Value) : List Str → Prop
  | [] => True
  | x :: r => mg x = none ∧ Nones mg r
theorem Nones.all : ∀ {l : List Str}, Nones mg l → ∀ x, l.contains x = true → mg x = none
  | [], _, x, e => by simp at e
  | y :: r, ⟨h1, h2⟩, x, e => by
    rw [List.contains_cons, Bool.or_eq_true] at e
    rcases e with e | e
    · have e : x = y := by simpa using e
      rw [e]; exact h1
    · exact Nones.all h2 x e
def Ints (mg : Str → Option Value) : List (Str × Int) → Prop
  | [] => True
  | p :: r => (∃ u, mg p.1 = some u ∧ RelV (.int p.2) u) ∧ Ints mg r
theorem Ints.all : ∀ {l : List (Str × Int)}, Ints mg l → ∀ x i, l.contains (x, i) = true → ∃ u, mg x = some u ∧ RelV (.int i) u
  | [], _, x, i, e => by simp at e
  | y :: r, ⟨h1, h2⟩, x, i, e => by
    rw [List.contains_cons, Bool.or_eq_true] at e
    rcases e with e | e
    · have e : (x, i) = y := by simpa using e
      rw [← e] at h1; exact h1
    · exact Ints.all h2 x i e
theorem prog_mk {T : Tx} {Fs : List Fn} {cl : Str → Option Addr} (d : Paired (fun (x : Str) (F : Fn) => ∃ (st : Stmt) (N ps : List Str), DefOk T (rdsOf Fs) st N ps F ∧ DefAt K mg x st ps) T.fn Fs) (b : Nones mg T.bl) (g : T.gcd = true → mg "gcd" = some (.builtin "math.gcd")) (i : Ints mg T.gi) {P : Program} (hl : HallW T cl P K mg) : Prog P T Fs K mg cl := by
  refine ⟨fun f x hx => ?_, b.all, g, i.all, hl⟩
  have key : ∀ {l : List Str} {m : List Fn} {f : Nat}, Paired (fun (x : Str) (F : Fn) => ∃ (st : Stmt) (N ps : List Str), DefOk T (rdsOf Fs) st N ps F ∧ DefAt K mg x st ps) l m → l[f]? = some x → ∃ (F : Fn) (st : Stmt) (N ps : List Str), m[f]? = some F ∧ DefOk T (rdsOf Fs) st N ps F ∧ DefAt K mg x st ps := by
    intro l
    induction l with
    | nil => intro m f _ e; simp at e
    | cons y l ih =>
      intro m f d e
      cases d with
      | cons q t =>
        cases f with
        | zero =>
          simp at e; subst e
          obtain ⟨st, N, ps, h1, h2⟩ := q
          exact ⟨_, st, N, ps, rfl, h1, h2⟩
        | succ f =>
          obtain ⟨F, st, N, ps, h0, h1, h2⟩ := ih t (by simpa using e)
          exact ⟨F, st, N, ps, by simpa using h0, h1, h2⟩
  exact key d hx
end
/-- an error's class, by its equations -/
theorem hcls_mk {K : PySem.W.Frag} {D fI C : Addr} {nm q : Str} {N : Addr} {bs bm : List Value} {sn : List Str} {sub : List Value} {ab : Bool} {col : Option Bool} {dd : Option Addr} {k0 k1 k2 k3 k5 : Option Value}
    (l : K.lookup C = some (excClassObj nm q C N bs bm true sn sub ab col dd k0 k1 k2 k3 k5 "ValueError.__new__")) (hb : HandSPX.refsVE bm = true) (sa : PySem.W.findIn K (.ref C) "__setattr__" = some (some (.builtin "object.__setattr__"))) (noN : PySem.W.findIn K (.ref C) "at" = some none)
    (iC : PySem.W.findIn K (.ref C) "__init__" = some (some (.ref fI))) (kC : PySem.W.keepIn K (.ref C) = true) (exC : PySem.W.subIn K (.ref C) (.type "BaseException") = some true) (veC : PySem.W.subIn K (.ref C) (.type "ValueError") = some true)
    (tyC : PySem.W.typeIn K (.ref C) = some (.type "type")) (up : PySem.W.mroIn K C (.ref D) = some true) (sup : PySem.W.ks_superIn K C D "__init__" = some (some (.builtin "ValueError.__init__")))
    (ga : PySem.W.findIn K (.ref C) "__getattribute__" = some (some (.builtin "BaseException.__getattribute__"))) (gg : PySem.W.findIn K (.ref C) "__getattr__" = some none) (hd : PySem.W.hasDictIn K C = true) : HCls K D fI C ∧ XfC K C :=
  ⟨⟨⟨nm, q, N, bs, bm, sn, sub, ab, col, dd, k0, k1, k2, k3, k5, l, hb⟩, sa, noN, iC, kC, exC, veC, tyC, up, sup⟩, ⟨ga, gg, exC, hd⟩⟩
/-- the error that was raised, and the class of a clause -/
theorem exm_mk {K : PySem.W.Frag} {C Cx : Addr} {b : Bool} (h1 : PySem.W.subIn K (.ref Cx) (.type "BaseException") = some true) (h2 : PySem.W.isClsIn K Cx = true) (h3 : PySem.W.typeIn K (.ref Cx) = some (.type "type")) (h4 : PySem.W.subIn K (.ref C) (.ref Cx) = some b) : PySem.W.exmOne K (.ref C) (.ref Cx) = some b := by
  have e1 : (PySem.W.subIn K (.ref Cx) (.type "BaseException") == some true) = true := by rw [h1]; rfl
  have e2 : ((PySem.W.clsIn K Cx).isSome && PySem.W.typeIn K (.ref Cx) == some (.type "type")) = true := by
    have h2' : (PySem.W.clsIn K Cx).isSome = true := h2
    rw [h2', h3]; rfl
  show (if (PySem.W.subIn K (.ref Cx) (.type "BaseException") == some true) = true then (if ((PySem.W.clsIn K Cx).isSome && PySem.W.typeIn K (.ref Cx) == some (.type "type")) = true then PySem.W.subIn K (.ref C) (.ref Cx) else none) else none) = some b
  rw [if_pos e1, if_pos e2]
  exact h4
def HallAll (K : PySem.W.Frag) (mg : Str → Option Value) (D fI : Addr) : List (Str × Addr) → Prop
  | [] => True
  | p :: r => (mg p.1 = some (.ref p.2) ∧ HCls K D fI p.2 ∧ XfC K p.2) ∧ HallAll K mg D fI r
def ExmAll (K : PySem.W.Frag) (c : Str × Addr) : List (Str × Addr) → Prop
  | [] => True
  | x :: r => PySem.W.subIn K (.ref c.2) (.ref x.2) = some (exm x.1 c.1) ∧ ExmAll K c r
def ExmAll2 (K : PySem.W.Frag) (l : List (Str × Addr)) : List (Str × Addr) → Prop
  | [] => True
  | c :: r => (ExmAll K c l ∧ PySem.W.isClsIn K c.2 = true) ∧ ExmAll2 K l r
theorem HallAll.at {K : PySem.W.Frag} {mg : Str → Option Value} {D fI : Addr} : ∀ {l : List (Str × Addr)}, HallAll K mg D fI l → ∀ {x : Str} {C : Addr}, l.lookup x = some C → mg x = some (.ref C) ∧ HCls K D fI C ∧ XfC K C
  | [], _, x, C, e => by simp at e
  | (y, C') :: r, ⟨h, t⟩, x, C, e => by
    rw [List.lookup_cons] at e
    by_cases q : x = y
    · subst q
      simp only [beq_self_eq_true] at e
      cases e; exact h
    · simp only [show (x == y) = false by simpa using q] at e
      exact HallAll.at t e
theorem ExmAll.at {K : PySem.W.Frag} {c : Str × Addr} : ∀ {l : List (Str × Addr)}, ExmAll K c l → ∀ {x : Str} {C : Addr}, l.lookup x = some C → PySem.W.subIn K (.ref c.2) (.ref C) = some (exm x c.1)
  | [], _, x, C, e => by simp at e
  | (y, C') :: r, ⟨h, t⟩, x, C, e => by
    rw [List.lookup_cons] at e
    by_cases q : x = y
    · subst q
      simp only [beq_self_eq_true] at e
      cases e; exact h
    · simp only [show (x == y) = false by simpa using q] at e
      exact ExmAll.at t e
theorem ExmAll2.at {K : PySem.W.Frag} {l : List (Str × Addr)} : ∀ {m : List (Str × Addr)}, ExmAll2 K l m → ∀ {x : Str} {C : Addr}, m.lookup x = some C → ExmAll K (x, C) l ∧ PySem.W.isClsIn K C = true
  | [], _, x, C, e => by simp at e
  | (y, C') :: r, ⟨h, t⟩, x, C, e => by
    rw [List.lookup_cons] at e
    by_cases q : x = y
    · subst q
      simp only [beq_self_eq_true] at e
      cases e; exact h
    · simp only [show (x == y) = false by simpa using q] at e
      exact ExmAll2.at t e
theorem lookup_has {l : List (Str × Addr)} {x : Str} : (l.map (·.1)).contains x = true → ∃ C, l.lookup x = some C := by
  induction l with
  | nil => intro h; simp at h
  | cons p r ih =>
    intro h
    rw [List.lookup_cons]
    by_cases q : x = p.1
    · exact ⟨p.2, by simp [q]⟩
    · have : (x == p.1) = false := by simpa using q
      rw [this]
      refine ih ?_
      rw [List.map_cons, List.contains_cons, this, Bool.false_or] at h
      exact h
theorem lookup_in' {l : List (Str × Addr)} {x : Str} {C : Addr} (h : l.lookup x = some C) : (l.map (·.1)).contains x = true := by
  induction l with
  | nil => simp at h
  | cons p r ih =>
    rw [List.lookup_cons] at h
    rw [List.map_cons, List.contains_cons]
    by_cases q : x = p.1
    · simp [q]
    · have : (x == p.1) = false := by simpa using q
      rw [this] at h
      rw [ih h, Bool.or_true]
/-- the classes whose errors are values -/
def ErAll (K : PySem.W.Frag) : List (Str × Addr) → Prop
  | [] => True
  | p :: r => (clK K p.1 = some p.2 ∧ ExcC K p.2) ∧ ErAll K r
theorem ErAll.at {K : PySem.W.Frag} : ∀ {l : List (Str × Addr)}, ErAll K l → ∀ {x : Str} {C : Addr}, l.lookup x = some C → clK K x = some C ∧ ExcC K C
  | [], _, x, C, e => by simp at e
  | (y, C') :: r, ⟨h, t⟩, x, C, e => by
    rw [List.lookup_cons] at e
    by_cases q : x = y
    · subst q
      simp only [beq_self_eq_true] at e
      cases e; exact h
    · simp only [show (x == y) = false by simpa using q] at e
      exact ErAll.at t e
theorem clK_of {K : PySem.W.Frag} {x : Str} {C : Addr} (n : PySem.W.nsIn K mainGlobals x = some (some (.ref C))) : clK K x = some C := by
  unfold clK; rw [n]
/-- an error's class, whose errors are values -/
theorem excC_mk {K : PySem.W.Frag} {D fI C : Addr} (h : HCls K D fI C ∧ XfC K C) (ha : PySem.W.findIn K (.ref C) "__class__" = some (some (.builtin "object.__class__"))) (hn : PySem.W.specialIn K (.builtin "object.__class__") "__get__" = some (some (.builtin "getset_descriptor.__get__")))
    (ht : PySem.W.takesIn K (.builtin "object.__class__") = some true) (hm : PySem.W.mroIn K C (.type "object") = some true) : ExcC K C :=
  ⟨h.2.ga, h.2.gg, h.2.exC, h.2.hdC, ha, hn, ht, hm⟩
theorem hall_mk {T : Tx} {P : Program} {K : PySem.W.Frag} {mg : Str → Option Value} {D fI : Addr} {l : List (Str × Addr)} (hl : T.cls = l.map (·.1)) (sup : mg "super" = none) (F : HFn P K D fI) (all : HallAll K mg D fI l) (ex : ExmAll2 K l l) (eo : T.eo = true → ErAll K l := by exact fun z => nomatch z) : HallW T (fun x => l.lookup x) P K mg := by
  refine ⟨fun _ => sup, fun _ => ⟨D, fI, F, fun x hx => ?_⟩, fun c x _ _ C Cx e1 e2 => ?_, fun c C e => by rw [hl]; exact lookup_in' e, fun z x C _ e => (eo z).at e⟩
  · rw [hl] at hx
    obtain ⟨C, e⟩ := lookup_has hx
    exact ⟨C, e, all.at e⟩
  · have h1 := (all.at e2).2.1
    exact exm_mk h1.exC (ex.at e2).2 h1.tyC ((ex.at e1).1.at e2)
/-- the base class and its __init__ stand behind the top -/
theorem with_hall {goal : Prop} {P : Program} {K : PySem.W.Frag} {mg : Str → Option Value} {h : Heap} (X : K.In h) (G : h.Ns mainGlobals mg) {D fI cda cc : Addr} {oc : Value} {od : Option Addr} {kV doc pm : Value} {an : Option Addr} {ct : Value} {osl : Array (Option Value)} {p1 p2 a b c d e f g i j k : Pos}
    {z1 : Value} {z2 : Option Addr} {vs : Array Value} {z3 : Array (Option Value)} {file : Str} {tf : Tok} {y1 : Value} {y2 : Option Addr} {y3 : Array (Option Value)}
    (n : PySem.W.nsIn K mainGlobals "HallError" = some (some (.ref D))) (i0 : PySem.W.findIn K (.ref D) "__init__" = some (some (.ref fI)))
    (l : K.lookup fI = some ⟨oc, od, .func (PySem.W.ksFn "__init__" "HallError.__init__" (hA p1 p2) (hB a b c d e f g i j k) hS .none kV doc pm an (.ref cda) ct cc), osl⟩) (co : PySem.W.codeIn K (.ref cda) "HallError.__init__" = true)
    (lc : K.lookup cda = some ⟨z1, z2, .fields vs, z3⟩) (ll : K.lookup cc = some ⟨y1, y2, .cell (some (.ref D)), y3⟩) (cls : PySem.W.isClsIn K D = true) (tC : PySem.W.typeIn K (.ref fI) = some (.type "function")) (th : PySem.W.nsIn K PySem.cStatics "thirdparty.any" = some none)
    (su : PySem.W.nsIn K mainGlobals "super" = some none) (line : (c.endLine == e.line) = true) (v2 : vs[2]? = some (.str file tf)) (fl : ((P.main.file : Str) == file) = true) (top : (P.main.scope.names.lookup ("super" : Str)).isSome = false)
    (r : mg "super" = none → HFn P K D fI → goal) : goal :=
  r (PySem.W.mg_none_of X G su) ⟨⟨oc, od, kV, doc, pm, an, cda, ct, osl, cc, p1, p2, a, b, c, d, e, f, g, i, j, k, l, co, line, ⟨z1, z2, vs, z3, file, tf, lc, v2, fl⟩, ⟨y1, y2, y3, ll⟩⟩, by
    unfold PySem.W.isClsIn at cls
    cases q : PySem.W.clsIn K D with
    | none => rw [q] at cls; cases cls
    | some cd => exact ⟨cd, rfl⟩, top, tC, th⟩
/-- no class of the program behind it -/
def noRef : List Value → Bool
  | [] => true
  | .ref _ :: _ => false
  | _ :: r => noRef r
/-- the base class alone, of the program's -/
def bmOk (D C : Addr) (bm : List Value) : Bool := match bm with
  | .ref d :: tl => d == D && noRef tl
  | tl => C == D && noRef tl
theorem noRef_has : ∀ {l : List Value} {x : Addr}, noRef l = true → l.contains (.ref x) = false
  | [], _, _ => rfl
  | v :: r, x, h => by
    cases v <;> first | (cases h; done) | (rw [List.contains_cons, noRef_has (l := r) h, Bool.or_false]; rfl)
/-- which of the program's errors are above it -/
def MroD (K : PySem.W.Frag) (D C : Addr) : Prop := ∀ Cx : Addr, PySem.W.subIn K (.ref C) (.ref Cx) = some (decide (Cx = C) || decide (Cx = D))
theorem ref_beq (a b : Addr) : (Value.ref a == Value.ref b) = decide (a = b) := by
  by_cases h : a = b
  · subst h; rw [decide_eq_true rfl]; exact beq_self_eq_true _
  · rw [decide_eq_false h]
    exact beq_eq_false_iff_ne.mpr fun z => h (Value.ref.inj z)
theorem bmOk_cases {D C : Addr} : ∀ {bm : List Value}, bmOk D C bm = true → (∃ tl, bm = .ref D :: tl ∧ noRef tl = true) ∨ (C = D ∧ noRef bm = true)
  | [], h => by
    have h : (C == D && noRef []) = true := h
    simp only [Bool.and_eq_true, beq_iff_eq] at h
    exact .inr h
  | v :: tl, h => by
    cases v
    case ref d =>
      have h : (d == D && noRef tl) = true := h
      simp only [Bool.and_eq_true, beq_iff_eq] at h
      exact .inl ⟨tl, by rw [h.1], h.2⟩
    all_goals
      have h : (C == D && noRef (_ :: tl)) = true := h
      simp only [Bool.and_eq_true, beq_iff_eq] at h
      exact .inr h
theorem mroD_of {K : PySem.W.Frag} {D C : Addr} {nm q : Str} {N : Addr} {bs bm : List Value} {sn : List Str} {sub : List Value} {ab : Bool} {col : Option Bool} {dd : Option Addr} {k0 k1 k2 k3 k5 : Option Value}
    (l : K.lookup C = some (excClassObj nm q C N bs bm true sn sub ab col dd k0 k1 k2 k3 k5 "ValueError.__new__")) (h : bmOk D C bm = true) : MroD K D C := by
  intro Cx
  have hcl : PySem.W.clsIn K C = some { name := nm, bases := bs, mro := .ref C :: bm, ns := N, qualname := q, hasDict := true, slotNames := sn, subclasses := sub, abstract := ab, collection := col, hasDel := false } := by unfold PySem.W.clsIn; rw [l] <;> rfl
  show PySem.W.mroIn K C (.ref Cx) = _
  unfold PySem.W.mroIn
  rw [hcl]
  show some (List.contains (.ref C :: bm) (.ref Cx)) = _
  congr 1
  rw [List.contains_cons, ref_beq]
  rcases bmOk_cases h with ⟨tl, rfl, ht⟩ | ⟨rfl, ht⟩
  · rw [List.contains_cons, ref_beq, noRef_has ht, Bool.or_false]
  · rw [noRef_has ht, Bool.or_false, Bool.or_self]
def MroAll (K : PySem.W.Frag) (D : Addr) : List (Str × Addr) → Prop
  | [] => True
  | p :: r => (MroD K D p.2 ∧ PySem.W.isClsIn K p.2 = true) ∧ MroAll K D r
theorem exm_row {K : PySem.W.Frag} {D : Addr} {c : Str × Addr} (h : MroD K D c.2) : ∀ {m : List (Str × Addr)}, (m.all fun x => (decide (x.2 = c.2) || decide (x.2 = D)) == exm x.1 c.1) = true → ExmAll K c m
  | [], _ => trivial
  | x :: m, e => by
    rw [List.all_cons, Bool.and_eq_true, beq_iff_eq] at e
    exact ⟨(h x.2).trans (by rw [e.1]), exm_row h e.2⟩
theorem exm_all {K : PySem.W.Frag} {D : Addr} {l : List (Str × Addr)} (h : MroAll K D l) (e : (l.all fun c => l.all fun x => (decide (x.2 = c.2) || decide (x.2 = D)) == exm x.1 c.1) = true) : ExmAll2 K l l := by
  have key : ∀ {m : List (Str × Addr)}, MroAll K D m → (m.all fun c => l.all fun x => (decide (x.2 = c.2) || decide (x.2 = D)) == exm x.1 c.1) = true → ExmAll2 K l m := by
    intro m
    induction m with
    | nil => intro _ _; trivial
    | cons c m ih =>
      intro h e
      rw [List.all_cons, Bool.and_eq_true] at e
      exact ⟨⟨exm_row h.1.1 e.1, h.1.2⟩, ih h.2 e.2⟩
  exact key h e
theorem with_clsE {goal : Prop} {P : Program} {K : PySem.W.Frag} {mg : Str → Option Value} {h : Heap} {D fI : Addr} (_F : HFn P K D fI) (X : K.In h) (G : h.Ns mainGlobals mg) {x : Str} {C : Addr} {nm q : Str} {N : Addr} {bs bm : List Value} {sn : List Str} {sub : List Value} {ab : Bool} {col : Option Bool} {dd : Option Addr} {k0 k1 k2 k3 k5 : Option Value}
    (n : PySem.W.nsIn K mainGlobals x = some (some (.ref C))) (l : K.lookup C = some (excClassObj nm q C N bs bm true sn sub ab col dd k0 k1 k2 k3 k5 "ValueError.__new__")) (hb : HandSPX.refsVE bm = true) (sa : PySem.W.findIn K (.ref C) "__setattr__" = some (some (.builtin "object.__setattr__")))
    (noN : PySem.W.findIn K (.ref C) "at" = some none) (iC : PySem.W.findIn K (.ref C) "__init__" = some (some (.ref fI))) (kC : PySem.W.keepIn K (.ref C) = true) (exC : PySem.W.subIn K (.ref C) (.type "BaseException") = some true) (veC : PySem.W.subIn K (.ref C) (.type "ValueError") = some true)
    (tyC : PySem.W.typeIn K (.ref C) = some (.type "type")) (up : PySem.W.mroIn K C (.ref D) = some true) (sup : PySem.W.ks_superIn K C D "__init__" = some (some (.builtin "ValueError.__init__")))
    (ga : PySem.W.findIn K (.ref C) "__getattribute__" = some (some (.builtin "BaseException.__getattribute__"))) (gg : PySem.W.findIn K (.ref C) "__getattr__" = some none) (hd : PySem.W.hasDictIn K C = true)
    (ha : PySem.W.findIn K (.ref C) "__class__" = some (some (.builtin "object.__class__"))) (hn : PySem.W.specialIn K (.builtin "object.__class__") "__get__" = some (some (.builtin "getset_descriptor.__get__")))
    (ht : PySem.W.takesIn K (.builtin "object.__class__") = some true) (hm : PySem.W.mroIn K C (.type "object") = some true) (bo : bmOk D C bm = true)
    (r : mg x = some (.ref C) ∧ HCls K D fI C ∧ XfC K C → clK K x = some C ∧ ExcC K C → MroD K D C ∧ PySem.W.isClsIn K C = true → goal) : goal :=
  have h1 := hcls_mk l hb sa noN iC kC exC veC tyC up sup ga gg hd
  r ⟨PySem.W.mg_of X G n, h1⟩ ⟨clK_of n, excC_mk h1 ha hn ht hm⟩ ⟨mroD_of l bo, by
    have hcl : PySem.W.clsIn K C = some { name := nm, bases := bs, mro := .ref C :: bm, ns := N, qualname := q, hasDict := true, slotNames := sn, subclasses := sub, abstract := ab, collection := col, hasDel := false } := by unfold PySem.W.clsIn; rw [l] <;> rfl
    unfold PySem.W.isClsIn
    rw [hcl]; rfl⟩
/-- all that is wanted of an error's class -/
def ClsE (K : PySem.W.Frag) (mg : Str → Option Value) (D fI : Addr) (x : Str) (C : Addr) : Prop :=
  (mg x = some (.ref C) ∧ HCls K D fI C ∧ XfC K C) ∧ (clK K x = some C ∧ ExcC K C) ∧ (MroD K D C ∧ PySem.W.isClsIn K C = true)
def ClsAll (K : PySem.W.Frag) (mg : Str → Option Value) (D fI : Addr) : List (Str × Addr) → Prop
  | [] => True
  | p :: r => ClsE K mg D fI p.1 p.2 ∧ ClsAll K mg D fI r
theorem ClsAll.parts {K : PySem.W.Frag} {mg : Str → Option Value} {D fI : Addr} : ∀ {l : List (Str × Addr)}, ClsAll K mg D fI l → HallAll K mg D fI l ∧ ErAll K l ∧ MroAll K D l
  | [], _ => ⟨trivial, trivial, trivial⟩
  | _ :: _, ⟨h, t⟩ => ⟨⟨h.1, t.parts.1⟩, ⟨h.2.1, t.parts.2.1⟩, ⟨h.2.2, t.parts.2.2⟩⟩
theorem hall_mkE {T : Tx} {P : Program} {K : PySem.W.Frag} {mg : Str → Option Value} {D fI : Addr} {l : List (Str × Addr)} (hl : T.cls = l.map (·.1)) (sup : mg "super" = none) (F : HFn P K D fI) (all : ClsAll K mg D fI l)
    (dec : (l.all fun c => l.all fun x => (decide (x.2 = c.2) || decide (x.2 = D)) == exm x.1 c.1) = true) : ∃ cl, HallW T cl P K mg :=
  ⟨_, hall_mk hl sup F all.parts.1 (exm_all all.parts.2.2 dec) fun _ => all.parts.2.1⟩
theorem with_hw {goal : Prop} {T : Tx} {P : Program} {K : PySem.W.Frag} {mg : Str → Option Value} {h : Heap} (_X : K.In h) (hw : ∃ cl, HallW T cl P K mg) (r : ∀ cl, HallW T cl P K mg → goal) : goal := hw.elim r
theorem clsE_mk {P : Program} {K : PySem.W.Frag} {mg : Str → Option Value} {h : Heap} {D fI : Addr} (_F : HFn P K D fI) (X : K.In h) (G : h.Ns mainGlobals mg) {x : Str} {C : Addr} {nm q : Str} {N : Addr} {bs bm : List Value} {sn : List Str} {sub : List Value} {ab : Bool} {col : Option Bool} {dd : Option Addr} {k0 k1 k2 k3 k5 : Option Value}
    (n : PySem.W.nsIn K mainGlobals x = some (some (.ref C))) (l : K.lookup C = some (excClassObj nm q C N bs bm true sn sub ab col dd k0 k1 k2 k3 k5 "ValueError.__new__")) (hb : HandSPX.refsVE bm = true) (sa : PySem.W.findIn K (.ref C) "__setattr__" = some (some (.builtin "object.__setattr__")))
    (noN : PySem.W.findIn K (.ref C) "at" = some none) (iC : PySem.W.findIn K (.ref C) "__init__" = some (some (.ref fI))) (kC : PySem.W.keepIn K (.ref C) = true) (exC : PySem.W.subIn K (.ref C) (.type "BaseException") = some true) (veC : PySem.W.subIn K (.ref C) (.type "ValueError") = some true)
    (tyC : PySem.W.typeIn K (.ref C) = some (.type "type")) (up : PySem.W.mroIn K C (.ref D) = some true) (sup : PySem.W.ks_superIn K C D "__init__" = some (some (.builtin "ValueError.__init__")))
    (ga : PySem.W.findIn K (.ref C) "__getattribute__" = some (some (.builtin "BaseException.__getattribute__"))) (gg : PySem.W.findIn K (.ref C) "__getattr__" = some none) (hd : PySem.W.hasDictIn K C = true)
    (ha : PySem.W.findIn K (.ref C) "__class__" = some (some (.builtin "object.__class__"))) (hn : PySem.W.specialIn K (.builtin "object.__class__") "__get__" = some (some (.builtin "getset_descriptor.__get__")))
    (ht : PySem.W.takesIn K (.builtin "object.__class__") = some true) (hm : PySem.W.mroIn K C (.type "object") = some true) (bo : bmOk D C bm = true) : ClsE K mg D fI x C :=
  with_clsE _F X G n l hb sa noN iC kC exC veC tyC up sup ga gg hd ha hn ht hm bo fun a b c => ⟨a, b, c⟩
end DL
set_option Elab.async false
set_option linter.all false
set_option maxRecDepth 100000
namespace DL
open PySem PySem.Spec PyProof.Rows
@[simp] theorem guard_t {α : Type} (x : R α) : DL.guard true x = x := rfl
@[simp] theorem guard_f {α : Type} (x : R α) : DL.guard false x = .stuck := rfl
@[simp] theorem tst_b (b : Bool) : tst (.bool b) = .ok b := rfl
@[simp] theorem tst_i (i : Int) : tst (.int i) = .ok (i != 0) := rfl
@[simp] theorem tst_n : tst .none = .ok false := rfl
@[simp] theorem tst_l (xs : List D) : tst (.list xs) = .ok (!xs.isEmpty) := rfl
@[simp] theorem rb_ok {α β : Type} (a : α) (f : α → R β) : (R.ok a).bind f = f a := rfl
@[simp] theorem go_ok {α : Type} (a : α) (f : α → Res) : (R.ok a).go f = f a := rfl
@[simp] theorem rn_ok {α : Type} (a : α) : (R.ok a).noX = .ok a := rfl
/-- an int of some few bits -/
def small (i : Int) : Prop := -(2 ^ 200) < i ∧ i < 2 ^ 200
instance (i : Int) : Decidable (small i) := inferInstanceAs (Decidable (_ ∧ _))
theorem small.log {i : Int} (h : small i) : i.natAbs.log2 < 201 := by
  have h1 : i.natAbs < 2 ^ 201 := by unfold small at h; omega
  by_cases e : i.natAbs = 0
  · rw [e]; decide
  · exact (Nat.log2_lt e).mpr h1
theorem ev_mul {i j : Int} (hi : small i) (hj : small j) : evBin .mul (.int i) (.int j) = .ok (.int (i * j)) := by
  have h : i.natAbs.log2 + j.natAbs.log2 < 1000000 := by have := hi.log; have := hj.log; omega
  simp only [evBin, decide_eq_true h, guard_t]
@[simp] theorem ev_add (i j : Int) : evBin .add (.int i) (.int j) = .ok (.int (i + j)) := rfl
@[simp] theorem ev_sub (i j : Int) : evBin .sub (.int i) (.int j) = .ok (.int (i - j)) := rfl
/-- what is wanted behind a statement -/
structure Post where
  nx : En → Prop
  rt : D → Prop
  bk : En → Prop := fun _ => False
  ct : En → Prop := fun _ => False
  ex : Str → D → Prop := fun _ _ => False
def Wp (r : Res) (P : Post) : Prop := match r with
  | .nx ρ => P.nx ρ
  | .brk ρ => P.bk ρ
  | .cnt ρ => P.ct ρ
  | .ret d => P.rt d
  | .exc c i => P.ex c i
  | .stuck => False
theorem Wp.imp {r : Res} {P Q : Post} (h : Wp r P) (hn : ∀ ρ, P.nx ρ → Q.nx ρ) (hr : ∀ d, P.rt d → Q.rt d) (hb : ∀ ρ, P.bk ρ → Q.bk ρ) (hc : ∀ ρ, P.ct ρ → Q.ct ρ) (hx : ∀ c i, P.ex c i → Q.ex c i) : Wp r Q := by
  cases r with
  | nx ρ => exact hn _ h
  | brk ρ => exact hb _ h
  | cnt ρ => exact hc _ h
  | ret d => exact hr _ h
  | exc c i => exact hx _ _ h
  | stuck => exact h
@[simp] theorem ev_eq_int (a b : Int) : evCp .eq (.int a) (.int b) = .ok (.bool (decide (a = b))) := rfl
@[simp] theorem ev_ne_int (a b : Int) : evCp .ne (.int a) (.int b) = .ok (.bool (!decide (a = b))) := rfl
end DL
set_option Elab.async false
set_option linter.all false
set_option maxRecDepth 100000
set_option maxHeartbeats 1000000
namespace DT
open PySem PySem.Spec PyProof.Rows DL
class Enc (α : Type) where
  enc : α → D
abbrev enc {α : Type} [Enc α] (a : α) : D := Enc.enc a
structure T3 (α β γ : Type) where
  a : α
  b : β
  c : γ
  deriving DecidableEq
structure T4 (α β γ δ : Type) where
  a : α
  b : β
  c : γ
  d : δ
  deriving DecidableEq
structure T5 (α β γ δ ε : Type) where
  a : α
  b : β
  c : γ
  d : δ
  e : ε
  deriving DecidableEq
/-- the law's script -/
structure Script where
  ns : List Int
/-- a tuple of any length -/
structure Tup (α : Type) where
  l : List α
  deriving DecidableEq
instance : Enc Int := ⟨.int⟩
instance : Enc Bool := ⟨.bool⟩
instance : Enc Unit := ⟨fun _ => .none⟩
instance : Enc Str := ⟨.str⟩
instance : Enc D := ⟨id⟩
instance : Enc Script := ⟨fun s => rdD (s.ns.map .int)⟩
section
variable {α β γ δ ε : Type} [Enc α] [Enc β] [Enc γ] [Enc δ] [Enc ε]
instance : Enc (List α) := ⟨fun l => .list (l.map enc)⟩
instance : Enc (Tup α) := ⟨fun l => .tuple (l.l.map enc)⟩
instance : Enc (Option α) := ⟨fun x => match x with
  | none => .none
  | some a => enc a⟩
instance : Enc (α × β) := ⟨fun p => .tuple [enc p.1, enc p.2]⟩
instance : Enc (T3 α β γ) := ⟨fun p => .tuple [enc p.a, enc p.b, enc p.c]⟩
instance : Enc (T4 α β γ δ) := ⟨fun p => .tuple [enc p.a, enc p.b, enc p.c, enc p.d]⟩
instance : Enc (T5 α β γ δ ε) := ⟨fun p => .tuple [enc p.a, enc p.b, enc p.c, enc p.d, enc p.e]⟩
end
def Sim {α : Type} [Enc α] (r : R D) (t : R α) : Prop := match t with
  | .ok a => r = .ok (enc a)
  | .exc c i => r = .exc c i
  | .stuck => True
def SimI {α : Type} [Enc α] (r : R (List D)) (t : R (List α)) : Prop := match t with
  | .ok l => r = .ok (l.map enc)
  | .exc c i => r = .exc c i
  | .stuck => True
/-- a result and what is wanted of it -/
def SimW {τ : Type} (r : Res) (t : R τ) (O : τ → Res → Prop) : Prop := match t with
  | .ok v => O v r
  | .exc c i => r = .exc c i
  | .stuck => True
section
variable {α β γ δ ε τ : Type} [Enc α] [Enc β] [Enc γ] [Enc δ] [Enc ε]
theorem ev_p {r : R D} {a : α} {k : D → R D} {t : R β} (h : Sim r (.ok a)) (g : Sim (k (enc a)) t) : Sim (r.bind k) t := by
  have h : r = .ok (enc a) := h
  subst h
  exact g
theorem ev_m {r : R D} {ta : R α} {k : D → R D} {f : α → R β} (h : Sim r ta) (g : ∀ a, Sim (k (enc a)) (f a)) : Sim (r.bind k) (ta.bind f) := by
  cases ta with
  | ok a =>
    have h : r = .ok (enc a) := h
    subst h
    exact g a
  | exc c i =>
    have h : r = .exc c i := h
    subst h
    rfl
  | stuck => trivial
theorem tst_p {r : R D} {b : Bool} (h : Sim r (.ok b)) : r.bind tst = .ok b := by
  have h : r = .ok (enc b) := h
  subst h
  rfl
variable {Φ : Nat → List D → R D} {ρ : En}
theorem sim_var {i : Nat} {a : α} (h : ρ[i]? = some (some (enc a))) : Sim (evE Φ (.var i) ρ) (.ok a) := by
  show evE Φ (.var i) ρ = _
  simp only [evE, h]
theorem sim_cI (i : Int) : Sim (evE Φ (.cI i) ρ) (.ok i) := rfl
theorem sim_gI (x : Str) (i : Int) : Sim (evE Φ (.gI x i) ρ) (.ok i) := rfl
theorem sim_cB (b : Bool) : Sim (evE Φ (.cB b) ρ) (.ok b) := rfl
theorem sim_cN : Sim (evE Φ .cN ρ) (.ok ()) := rfl
theorem sim_cNo : Sim (evE Φ .cN ρ) (.ok (none : Option α)) := rfl
def theR (x : Option α) : R α := match x with
  | some a => .ok a
  | none => .stuck
theorem sim_the {r : R D} {x : Option α} (h : Sim r (.ok x)) : Sim r (theR x) := by
  cases x with
  | some a => exact h
  | none => trivial
theorem sim_bin {o : B2} {A B : C} {t : R γ} (h : Sim ((evE Φ A ρ).bind fun x => (evE Φ B ρ).bind fun y => evBin o x y) t) : Sim (evE Φ (.bin o A B) ρ) t := by
  unfold evE; exact h
theorem sim_cmp {o : Cp} {A B : C} {t : R γ} (h : Sim ((evE Φ A ρ).bind fun x => (evE Φ B ρ).bind fun y => evCp o x y) t) : Sim (evE Φ (.cmp o A B) ρ) t := by
  unfold evE; exact h
theorem sim_ix {A B : C} {t : R γ} (h : Sim ((evE Φ A ρ).bind fun x => (evE Φ B ρ).bind fun y => evIx x y) t) : Sim (evE Φ (.ix A B) ρ) t := by
  unfold evE; exact h
theorem sim_neg {A : C} {t : R γ} (h : Sim ((evE Φ A ρ).bind fun x => match x with
    | .int i => .ok (.int (-i))
    | _ => .stuck) t) : Sim (evE Φ (.neg A) ρ) t := by
  unfold evE; exact h
theorem sim_not {A : C} {t : R γ} (h : Sim ((evE Φ A ρ).bind fun x => (tst x).bind fun b => .ok (.bool (!b))) t) : Sim (evE Φ (.not A) ρ) t := by
  unfold evE
  cases e : evE Φ A ρ <;> rw [e] at h <;> exact h
theorem sim_tup {es : C} {t : R γ} (h : Sim ((evL Φ es ρ).bind fun ds => guard (sz ds.length) (.ok (.tuple ds))) t) : Sim (evE Φ (.tup es) ρ) t := by
  unfold evE; exact h
theorem sim_lst {es : C} {t : R γ} (h : Sim ((evL Φ es ρ).bind fun ds => guard (sz ds.length) (.ok (.list ds))) t) : Sim (evE Φ (.lst es) ρ) t := by
  unfold evE; exact h
theorem sim_bi {b : Bi} {es : C} {t : R γ} (h : Sim ((evL Φ es ρ).bind fun ds => evBi b ds) t) : Sim (evE Φ (.bi b es) ρ) t := by
  unfold evE; exact h
theorem sim_call {f : Nat} {es : C} {t : R γ} (h : Sim ((evL Φ es ρ).bind fun ds => Φ f ds) t) : Sim (evE Φ (.call f es) ρ) t := by
  unfold evE; exact h
theorem sim_callS {f : Nat} {es : C} {t : R γ} (h : Sim ((evL Φ es ρ).bind fun ds => (Φ f ds).bind fun d => guard (scalar d) (.ok d)) t) : Sim (evE Φ (.callS f es) ρ) t := by
  unfold evE; exact h
/-- a plain typed call's answer is scalar -/
class Scal (α : Type) [Enc α] : Prop where
  sc : ∀ a : α, scalar (enc a) = true
instance : Scal Int := ⟨fun _ => rfl⟩
instance : Scal Bool := ⟨fun _ => rfl⟩
instance : Scal Unit := ⟨fun _ => rfl⟩
instance : Scal Str := ⟨fun _ => rfl⟩
instance [Scal α] : Scal (Option α) := ⟨fun x => by
  cases x with
  | none => rfl
  | some a => exact Scal.sc a⟩
theorem op_scal [Scal α] {r : R D} {t : R α} (h : Sim r t) : Sim (r.bind fun d => guard (scalar d) (.ok d)) t := by
  cases t with
  | ok a =>
    have h : r = .ok (enc a) := h
    subst h
    show DL.guard (scalar (enc a)) (R.ok (enc a)) = _
    rw [Scal.sc a]; rfl
  | exc c i =>
    have h : r = .exc c i := h
    subst h
    rfl
  | stuck => trivial
theorem arg_nil {k : List D → R D} {t : R γ} (h : Sim (k []) t) : Sim ((evL Φ .nil ρ).bind k) t := by
  unfold evL; exact h
theorem arg_p {A As : C} {a : α} {k : List D → R D} {t : R γ} (h : Sim (evE Φ A ρ) (.ok a)) (g : Sim ((evL Φ As ρ).bind fun xs => k (enc a :: xs)) t) : Sim ((evL Φ (.cons A As) ρ).bind k) t := by
  have h : evE Φ A ρ = .ok (enc a) := h
  unfold evL
  rw [h]
  cases e : evL Φ As ρ <;> rw [e] at g <;> exact g
theorem arg_m {A As : C} {ta : R α} {k : List D → R D} {f : α → R γ} (h : Sim (evE Φ A ρ) ta) (g : ∀ a, Sim ((evL Φ As ρ).bind fun xs => k (enc a :: xs)) (f a)) : Sim ((evL Φ (.cons A As) ρ).bind k) (ta.bind f) := by
  cases ta with
  | ok a => exact arg_p h (g a)
  | exc c i =>
    have h : evE Φ A ρ = .exc c i := h
    unfold evL
    rw [h]; rfl
  | stuck => trivial
theorem sim_and {es : C} {t : R γ} (h : Sim (evA Φ es ρ) t) : Sim (evE Φ (.and es) ρ) t := by
  unfold evE; exact h
theorem sim_or {es : C} {t : R γ} (h : Sim (evO Φ es ρ) t) : Sim (evE Φ (.or es) ρ) t := by
  unfold evE; exact h
theorem and_1 {A : C} {t : R Bool} (h : Sim (evE Φ A ρ) t) : Sim (evA Φ (.cons A .nil) ρ) t := by
  unfold evA
  cases t with
  | ok a =>
    have h : evE Φ A ρ = .ok (enc a) := h
    rw [h]; rfl
  | exc c i =>
    have h : evE Φ A ρ = .exc c i := h
    rw [h]; rfl
  | stuck => trivial
theorem or_1 {A : C} {t : R Bool} (h : Sim (evE Φ A ρ) t) : Sim (evO Φ (.cons A .nil) ρ) t := by
  unfold evO
  cases t with
  | ok a =>
    have h : evE Φ A ρ = .ok (enc a) := h
    rw [h]; rfl
  | exc c i =>
    have h : evE Φ A ρ = .exc c i := h
    rw [h]; rfl
  | stuck => trivial
theorem and_m {A B Bs : C} {ta tb : R Bool} (h : Sim (evE Φ A ρ) ta) (g : Sim (evA Φ (.cons B Bs) ρ) tb) : Sim (evA Φ (.cons A (.cons B Bs)) ρ) (ta.bind fun a => if a then tb else .ok false) := by
  cases ta with
  | ok a =>
    have h : evE Φ A ρ = .ok (enc a) := h
    rw [evA, h]
    cases a with
    | true => exact g
    | false => exact rfl
  | exc c i =>
    have h : evE Φ A ρ = .exc c i := h
    rw [evA, h]; rfl
  | stuck => trivial
theorem or_m {A B Bs : C} {ta tb : R Bool} (h : Sim (evE Φ A ρ) ta) (g : Sim (evO Φ (.cons B Bs) ρ) tb) : Sim (evO Φ (.cons A (.cons B Bs)) ρ) (ta.bind fun a => if a then .ok true else tb) := by
  cases ta with
  | ok a =>
    have h : evE Φ A ρ = .ok (enc a) := h
    rw [evO, h]
    cases a with
    | true => exact rfl
    | false => exact g
  | exc c i =>
    have h : evE Φ A ρ = .exc c i := h
    rw [evO, h]; rfl
  | stuck => trivial
theorem and_pm {A B Bs : C} {a : Bool} {tb : R Bool} (h : Sim (evE Φ A ρ) (.ok a)) (g : Sim (evA Φ (.cons B Bs) ρ) tb) : Sim (evA Φ (.cons A (.cons B Bs)) ρ) (if a then tb else .ok false) := and_m h g
theorem or_pm {A B Bs : C} {a : Bool} {tb : R Bool} (h : Sim (evE Φ A ρ) (.ok a)) (g : Sim (evO Φ (.cons B Bs) ρ) tb) : Sim (evO Φ (.cons A (.cons B Bs)) ρ) (if a then .ok true else tb) := or_m h g
/-- a test, of a value that may fail -/
def TSim (r : R D) (t : R Bool) : Prop := match t with
  | .ok b => r.bind tst = .ok b
  | .exc c i => r = .exc c i
  | .stuck => True
theorem ts_b {r : R D} {t : R Bool} (h : Sim r t) : TSim r t := by
  cases t with
  | ok b => exact tst_p h
  | exc c i => exact h
  | stuck => trivial
theorem sim_chn {o p : Cp} {A B E : C} {t : R γ} (h : Sim ((evE Φ A ρ).bind fun x => (evE Φ B ρ).bind fun y => ((evCp o x y).bind tst).bind fun r => if r then (evE Φ E ρ).bind fun z => evCp p y z else .ok (.bool false)) t) : Sim (evE Φ (.chn o p A B E) ρ) t := by
  unfold evE; exact h
theorem chn_p {r : R D} {b : Bool} {x : R D} {c : Bool} (h : Sim r (.ok b)) (g : Sim x (.ok c)) : Sim ((r.bind tst).bind fun r => if r then x else .ok (.bool false)) (.ok (b && c)) := by
  rw [tst_p h]
  cases b with
  | true => exact g
  | false => rfl
end
theorem op_add (i j : Int) : Sim (evBin .add (enc i) (enc j)) (.ok (i + j)) := rfl
theorem op_sub (i j : Int) : Sim (evBin .sub (enc i) (enc j)) (.ok (i - j)) := rfl
@[irreducible] def mulR (i j : Int) : R Int := DL.guard (decide (i.natAbs.log2 + j.natAbs.log2 < 1000000)) (.ok (i * j))
@[irreducible] def fdivR (i j : Int) : R Int := DL.guard (decide (0 < j) && decide (j.natAbs.log2 < 9000)) (.ok (i / j))
def modR (i j : Int) : R Int := DL.guard (decide (0 < j)) (.ok (i % j))
@[irreducible] def powR (i j : Int) : R Int := DL.guard (decide (0 ≤ j) && decide (j ≤ 1000000) && decide (i.natAbs < 2 ^ 64)) (.ok (i ^ j.toNat))
theorem sim_guard {α : Type} [Enc α] {b : Bool} {r : R D} {t : R α} (h : Sim r t) : Sim (DL.guard b r) (DL.guard b t) := by
  cases b with
  | true => exact h
  | false => trivial
theorem op_mul (i j : Int) : Sim (evBin .mul (enc i) (enc j)) (mulR i j) := by unfold mulR; exact sim_guard (α := Int) rfl
theorem op_fdiv (i j : Int) : Sim (evBin .fdiv (enc i) (enc j)) (fdivR i j) := by unfold fdivR; exact sim_guard (α := Int) rfl
theorem op_mod (i j : Int) : Sim (evBin .mod (enc i) (enc j)) (modR i j) := sim_guard (α := Int) rfl
theorem op_pow (i j : Int) : Sim (evBin .pow (enc i) (enc j)) (powR i j) := by unfold powR; exact sim_guard (α := Int) rfl
theorem op_modl (i j : Int) (h : decide (0 < j) = true) : Sim (evBin .mod (enc i) (enc j)) (.ok (i % j)) := by
  have := op_mod i j
  unfold modR at this
  rwa [h] at this
theorem op_fdivl (i j : Int) (h : (decide (0 < j) && decide (j.natAbs.log2 < 9000)) = true) : Sim (evBin .fdiv (enc i) (enc j)) (.ok (i / j)) := by
  have := op_fdiv i j
  unfold fdivR at this
  rwa [h] at this
theorem op_powl (i j : Int) (h : (decide (0 ≤ j) && decide (j ≤ 1000000) && decide (i.natAbs < 2 ^ 64)) = true) : Sim (evBin .pow (enc i) (enc j)) (.ok (i ^ j.toNat)) := by
  have := op_pow i j
  unfold powR at this
  rwa [h] at this
theorem op_lt (i j : Int) : Sim (evCp .lt (enc i) (enc j)) (.ok (decide (i < j))) := rfl
theorem op_le (i j : Int) : Sim (evCp .le (enc i) (enc j)) (.ok (decide (i ≤ j))) := rfl
theorem op_gt (i j : Int) : Sim (evCp .gt (enc i) (enc j)) (.ok (decide (j < i))) := rfl
theorem op_ge (i j : Int) : Sim (evCp .ge (enc i) (enc j)) (.ok (decide (j ≤ i))) := rfl
theorem op_neg (i : Int) : Sim (match (enc i : D) with
    | .int i => .ok (.int (-i))
    | _ => .stuck) (.ok (-i)) := rfl
theorem op_not (b : Bool) : Sim ((tst (enc b)).bind fun b => .ok (.bool (!b))) (.ok (!b)) := rfl
section
variable {α β γ δ ε : Type} [Enc α] [Enc β] [Enc γ] [Enc δ] [Enc ε]
theorem op_isn (x : Option α) (h : ∀ a : α, isNoneD (enc a) = false) : Sim (evCp .isn (enc x) .none) (.ok x.isNone) := by
  cases x with
  | none => rfl
  | some a => show R.ok (PyData.bool (isNoneD (enc a))) = _; rw [h]; rfl
theorem op_isnn (x : Option α) (h : ∀ a : α, isNoneD (enc a) = false) : Sim (evCp .isnn (enc x) .none) (.ok x.isSome) := by
  cases x with
  | none => rfl
  | some a => show R.ok (PyData.bool (!isNoneD (enc a))) = _; rw [h]; rfl
def ixR (xs : List α) (i : Int) : R α := match L2.atI xs i with
  | some a => .ok a
  | none => .stuck
theorem atI_map (xs : List α) (i : Int) : L2.atI (xs.map (enc (α := α))) i = (L2.atI xs i).map enc := by
  unfold L2.atI L2.ixN
  rw [List.length_map]
  split <;> split <;> simp
theorem op_ix (xs : List α) (i : Int) : Sim (evIx (enc xs) (enc i)) (ixR xs i) := by
  show Sim (match L2.atI (xs.map enc) i with
    | some d => .ok d
    | none => .stuck) (ixR xs i)
  rw [atI_map]
  unfold ixR
  cases L2.atI xs i with
  | none => trivial
  | some a => rfl
theorem op_ixS (s : Script) (i : Int) : Sim (evIx (enc s) (enc i)) (ixR s.ns i) := by
  show Sim (match L2.atI (s.ns.map PyData.int) i with
    | some d => .ok d
    | none => .stuck) (ixR s.ns i)
  rw [show (s.ns.map PyData.int) = s.ns.map (enc (α := Int)) from rfl, atI_map]
  unfold ixR
  cases L2.atI s.ns i with
  | none => trivial
  | some a => rfl
theorem op_t2 (a : α) (b : β) : Sim (DL.guard (sz [enc a, enc b].length) (.ok (.tuple [enc a, enc b]))) (.ok (a, b)) := by
  rw [show sz [enc a, enc b].length = true from decide_eq_true (by rw [sizeLine_eq]; simp)]; rfl
theorem op_l0 : Sim (DL.guard (sz ([] : List D).length) (.ok (.list []))) (.ok ([] : List α)) := by
  rw [show sz ([] : List D).length = true by unfold sz; rw [sizeLine_eq]; decide]; rfl
theorem op_ln {ds : List D} {as : List α} (h : ds = as.map enc) (z : as.length ≤ 1000) : Sim (DL.guard (sz ds.length) (.ok (.list ds))) (.ok as) := by
  subst h
  rw [show sz (as.map (enc (α := α))).length = true from decide_eq_true (by rw [sizeLine_eq, List.length_map]; omega)]; rfl
def absI (i : Int) : Int := if i < 0 then -i else i
def minI (i j : Int) : Int := if j < i then j else i
theorem bi_len (xs : List α) : Sim (evBi .len [enc xs]) (.ok (xs.length : Int)) := by
  show R.ok (PyData.int (xs.map enc).length) = _
  rw [List.length_map]; rfl
theorem bi_lenS (s : Script) : Sim (evBi .len [enc s]) (.ok (s.ns.length : Int)) := by
  show R.ok (PyData.int (s.ns.map PyData.int).length) = _
  rw [List.length_map]; rfl
theorem bi_abs (i : Int) : Sim (evBi .abs [enc i]) (.ok (absI i)) := rfl
theorem bi_int (i : Int) : Sim (evBi .int [enc i]) (.ok i) := rfl
theorem bi_min2 (i j : Int) : Sim (evBi .min2 [enc i, enc j]) (.ok (minI i j)) := rfl
theorem bools_enc : ∀ xs : List Bool, boolsD (xs.map enc) = some xs
  | [] => rfl
  | x :: xs => by
    show (boolsD (xs.map enc)).map _ = _
    rw [bools_enc xs]; rfl
theorem bi_all (xs : List Bool) : Sim (evBi .all [enc xs]) (.ok (xs.all id)) := by
  show Sim (match boolsD (xs.map enc) with
    | some ns => .ok (.bool (ns.all id))
    | none => .stuck) (.ok (xs.all id))
  rw [bools_enc]; rfl
/-- a type whose values are compared as data -/
class EncEq (α : Type) [Enc α] [DecidableEq α] where
  dep : Nat
  lay : ∀ a : α, (enc a).canLay0 = true
  depth : ∀ a : α, (enc a).depth ≤ dep
  eqv : ∀ a b : α, PyData.eqv (enc a) (enc b) = decide (a = b)
end
end DT
set_option Elab.async false
set_option linter.all false
set_option maxRecDepth 100000
set_option maxHeartbeats 1000000
namespace DT
open PySem PySem.Spec PyProof.Rows DL
instance : EncEq Int := ⟨1, fun _ => by simp [enc, Enc.enc, PyData.canLay0], fun _ => by simp [enc, Enc.enc, PyData.depth], fun a b => by
  simp only [enc, Enc.enc, PyData.eqv]
  by_cases h : a = b <;> simp [h]⟩
instance : EncEq Bool := ⟨1, fun _ => by simp [enc, Enc.enc, PyData.canLay0], fun _ => by simp [enc, Enc.enc, PyData.depth], fun a b => by cases a <;> cases b <;> decide⟩
section
variable {α β γ δ ε : Type} [Enc α] [Enc β] [Enc γ] [Enc δ] [Enc ε] [DecidableEq α] [DecidableEq β] [DecidableEq γ] [DecidableEq δ] [DecidableEq ε]
theorem layAll [EncEq α] : ∀ xs : List α, PyData.canLayAll0 (xs.map enc) = true
  | [] => by simp [PyData.canLayAll0]
  | x :: xs => by
    have ih := layAll xs
    have h := EncEq.lay x
    simp only [List.map_cons, PyData.canLayAll0, Bool.and_eq_true]
    exact ⟨h, ih⟩
theorem depthAll [EncEq α] : ∀ xs : List α, PyData.depthAll (xs.map enc) ≤ EncEq.dep α
  | [] => by simp [PyData.depthAll]
  | x :: xs => by
    have ih := depthAll xs
    have h := EncEq.depth x
    simp only [List.map_cons, PyData.depthAll]
    exact Nat.max_le.mpr ⟨h, ih⟩
theorem eqvAll [EncEq α] : ∀ xs ys : List α, PyData.eqvAll (xs.map enc) (ys.map enc) = decide (xs = ys)
  | [], [] => by simp [PyData.eqvAll]
  | [], y :: ys => by simp [PyData.eqvAll]
  | x :: xs, [] => by simp [PyData.eqvAll]
  | x :: xs, y :: ys => by
    have ih := eqvAll xs ys
    have h := EncEq.eqv x y
    simp only [List.map_cons, PyData.eqvAll]
    rw [h, ih]
    by_cases e : x = y <;> by_cases e2 : xs = ys <;> simp [e, e2]
instance [EncEq α] : EncEq (List α) := ⟨EncEq.dep α + 1, fun xs => by
  show (PyData.list (xs.map enc)).canLay0 = true
  simp only [PyData.canLay0, layAll], fun xs => by
  have := depthAll xs
  show (PyData.list (xs.map enc)).depth ≤ _
  simp only [PyData.depth]
  omega, fun xs ys => by
  show PyData.eqv (.list (xs.map enc)) (.list (ys.map enc)) = _
  simp only [PyData.eqv, eqvAll]⟩
instance [EncEq α] : EncEq (Tup α) := ⟨EncEq.dep α + 1, fun xs => by
  show (PyData.tuple (xs.l.map enc)).canLay0 = true
  simp only [PyData.canLay0, layAll], fun xs => by
  have := depthAll xs.l
  show (PyData.tuple (xs.l.map enc)).depth ≤ _
  simp only [PyData.depth]
  omega, fun xs ys => by
  show PyData.eqv (.tuple (xs.l.map enc)) (.tuple (ys.l.map enc)) = _
  simp only [PyData.eqv, eqvAll]
  cases xs; cases ys; simp⟩
instance [EncEq α] [EncEq β] : EncEq (α × β) := ⟨max (EncEq.dep α) (EncEq.dep β) + 1, fun p => by
  show (PyData.tuple [enc p.1, enc p.2]).canLay0 = true
  simp only [PyData.canLay0, PyData.canLayAll0, EncEq.lay, Bool.and_self], fun p => by
  have h1 := EncEq.depth p.1
  have h2 := EncEq.depth p.2
  show (PyData.tuple [enc p.1, enc p.2]).depth ≤ _
  simp only [PyData.depth, PyData.depthAll]
  omega, fun p q => by
  show PyData.eqv (.tuple [enc p.1, enc p.2]) (.tuple [enc q.1, enc q.2]) = _
  obtain ⟨a, b⟩ := p
  obtain ⟨c, d⟩ := q
  simp only [PyData.eqv, PyData.eqvAll, EncEq.eqv]
  by_cases e : a = c <;> by_cases e2 : b = d <;> simp [e, e2]⟩
instance [EncEq α] [EncEq β] [EncEq γ] : EncEq (T3 α β γ) := ⟨max (max (EncEq.dep α) (EncEq.dep β)) (EncEq.dep γ) + 1, fun p => by
  show (PyData.tuple [enc p.a, enc p.b, enc p.c]).canLay0 = true
  simp only [PyData.canLay0, PyData.canLayAll0, EncEq.lay, Bool.and_self], fun p => by
  have h1 := EncEq.depth p.a
  have h2 := EncEq.depth p.b
  have h3 := EncEq.depth p.c
  show (PyData.tuple [enc p.a, enc p.b, enc p.c]).depth ≤ _
  simp only [PyData.depth, PyData.depthAll]
  omega, fun p q => by
  show PyData.eqv (.tuple [enc p.a, enc p.b, enc p.c]) (.tuple [enc q.a, enc q.b, enc q.c]) = _
  obtain ⟨a, b, c⟩ := p
  obtain ⟨a', b', c'⟩ := q
  simp only [PyData.eqv, PyData.eqvAll, EncEq.eqv]
  by_cases e : a = a' <;> by_cases e2 : b = b' <;> by_cases e3 : c = c' <;> simp [e, e2, e3]⟩
instance [EncEq α] [EncEq β] [EncEq γ] [EncEq δ] : EncEq (T4 α β γ δ) := ⟨max (max (max (EncEq.dep α) (EncEq.dep β)) (EncEq.dep γ)) (EncEq.dep δ) + 1, fun p => by
  show (PyData.tuple [enc p.a, enc p.b, enc p.c, enc p.d]).canLay0 = true
  simp only [PyData.canLay0, PyData.canLayAll0, EncEq.lay, Bool.and_self], fun p => by
  have h1 := EncEq.depth p.a
  have h2 := EncEq.depth p.b
  have h3 := EncEq.depth p.c
  have h4 := EncEq.depth p.d
  show (PyData.tuple [enc p.a, enc p.b, enc p.c, enc p.d]).depth ≤ _
  simp only [PyData.depth, PyData.depthAll]
  omega, fun p q => by
  show PyData.eqv (.tuple [enc p.a, enc p.b, enc p.c, enc p.d]) (.tuple [enc q.a, enc q.b, enc q.c, enc q.d]) = _
  obtain ⟨a, b, c, d⟩ := p
  obtain ⟨a', b', c', d'⟩ := q
  simp only [PyData.eqv, PyData.eqvAll, EncEq.eqv]
  by_cases e : a = a' <;> by_cases e2 : b = b' <;> by_cases e3 : c = c' <;> by_cases e4 : d = d' <;> simp [e, e2, e3, e4]⟩
/-- an option whose values are none of them None -/
class NotNone (α : Type) [Enc α] : Prop where
  nn : ∀ a : α, ∀ d : D, PyData.eqv .none (enc a) = false ∧ PyData.eqv (enc a) .none = false ∧ isNoneD (enc a) = false
instance : NotNone Int := ⟨fun _ _ => ⟨by simp [enc, Enc.enc, PyData.eqv], by simp [enc, Enc.enc, PyData.eqv], rfl⟩⟩
instance : NotNone Bool := ⟨fun _ _ => ⟨by simp [enc, Enc.enc, PyData.eqv], by simp [enc, Enc.enc, PyData.eqv], rfl⟩⟩
instance : NotNone (List α) := ⟨fun _ _ => ⟨by simp [enc, Enc.enc, PyData.eqv], by simp [enc, Enc.enc, PyData.eqv], rfl⟩⟩
instance : NotNone (Tup α) := ⟨fun _ _ => ⟨by simp [enc, Enc.enc, PyData.eqv], by simp [enc, Enc.enc, PyData.eqv], rfl⟩⟩
instance : NotNone (α × β) := ⟨fun _ _ => ⟨by simp [enc, Enc.enc, PyData.eqv], by simp [enc, Enc.enc, PyData.eqv], rfl⟩⟩
instance : NotNone (T3 α β γ) := ⟨fun _ _ => ⟨by simp [enc, Enc.enc, PyData.eqv], by simp [enc, Enc.enc, PyData.eqv], rfl⟩⟩
instance : NotNone (T4 α β γ δ) := ⟨fun _ _ => ⟨by simp [enc, Enc.enc, PyData.eqv], by simp [enc, Enc.enc, PyData.eqv], rfl⟩⟩
instance [EncEq α] [NotNone α] : EncEq (Option α) := ⟨max 1 (EncEq.dep α), fun x => by
  cases x with
  | none => simp [enc, Enc.enc, PyData.canLay0]
  | some a => exact EncEq.lay a, fun x => by
  cases x with
  | none => simp [enc, Enc.enc, PyData.depth]
  | some a => have := EncEq.depth a; show (enc a).depth ≤ _; omega, fun x y => by
  cases x with
  | none => cases y with
    | none => simp [enc, Enc.enc, PyData.eqv]
    | some b => exact (NotNone.nn b .none).1
  | some a => cases y with
    | none => exact (NotNone.nn a .none).2.1
    | some b => show PyData.eqv (enc a) (enc b) = _; rw [EncEq.eqv]; simp⟩
theorem shaped_enc [EncEq α] (h : decide (EncEq.dep α ≤ 64) = true) (a : α) : SeqAt.shaped (enc a) = true := by
  have h1 := EncEq.lay a
  have h2 := EncEq.depth a
  have h := of_decide_eq_true h
  unfold SeqAt.shaped
  rw [h1, Bool.true_and]
  exact decide_eq_true (Nat.le_trans h2 h)
theorem op_eq [EncEq α] (h : decide (EncEq.dep α ≤ 64) = true) (a b : α) : Sim (evCp .eq (enc a) (enc b)) (.ok (decide (a = b))) := by
  show DL.guard (SeqAt.shaped (enc a) && SeqAt.shaped (enc b)) (R.ok (PyData.bool (PyData.eqv (enc a) (enc b)))) = _
  rw [shaped_enc h, shaped_enc h, EncEq.eqv]; rfl
theorem op_ne [EncEq α] (h : decide (EncEq.dep α ≤ 64) = true) (a b : α) : Sim (evCp .ne (enc a) (enc b)) (.ok (!decide (a = b))) := by
  show DL.guard (SeqAt.shaped (enc a) && SeqAt.shaped (enc b)) (R.ok (PyData.bool (!PyData.eqv (enc a) (enc b)))) = _
  rw [shaped_enc h, shaped_enc h, EncEq.eqv]; rfl
theorem any_enc [EncEq α] (a : α) : ∀ xs : List α, ((xs.map enc).any fun z => PyData.eqv z (enc a)) = decide (a ∈ xs)
  | [] => by simp
  | x :: xs => by
    have ih := any_enc a xs
    rw [List.map_cons, List.any_cons, ih, EncEq.eqv]
    by_cases e : x = a
    · simp [e]
    · have e2 : ¬ a = x := fun z => e z.symm
      simp [e, e2]
theorem op_in [EncEq α] (h : decide (EncEq.dep α + 1 ≤ 64) = true) (a : α) (xs : List α) : Sim (evCp .inn (enc a) (enc xs)) (.ok (decide (a ∈ xs))) := by
  show DL.guard (SeqAt.shaped (enc a) && SeqAt.shaped (enc xs)) (R.ok (PyData.bool ((xs.map enc).any fun z => PyData.eqv z (enc a)))) = _
  rw [shaped_enc (decide_eq_true (Nat.le_trans (Nat.le_succ _) (of_decide_eq_true h))), shaped_enc (α := List α) h, any_enc]; rfl
end
/-- values whose equality is that of the data -/
class EqvOk (α : Type) [Enc α] [DecidableEq α] : Prop where
  eqv : ∀ a b : α, PyData.eqv (enc a) (enc b) = decide (a = b)
instance {α : Type} [Enc α] [DecidableEq α] [EncEq α] : EqvOk α := ⟨EncEq.eqv⟩
instance : EqvOk Str := ⟨fun a b => by
  show PyData.eqv (.str a) (.str b) = _
  simp only [PyData.eqv]
  by_cases h : a = b <;> simp [h]⟩
instance {α β : Type} [Enc α] [Enc β] [DecidableEq α] [DecidableEq β] [EqvOk α] [EqvOk β] : EqvOk (α × β) := ⟨fun p q => by
  show PyData.eqv (.tuple [enc p.1, enc p.2]) (.tuple [enc q.1, enc q.2]) = _
  obtain ⟨a, b⟩ := p
  obtain ⟨c, d⟩ := q
  simp only [PyData.eqv, PyData.eqvAll, EqvOk.eqv]
  by_cases e : a = c <;> by_cases e2 : b = d <;> simp [e, e2]⟩
def irange (a b : Int) : List Int := (List.range (b - a).toNat).map fun k => a + (k : Nat)
@[irreducible] def rng1R (n : Int) : R (List Int) := DL.guard (decide (-(2 ^ 62) ≤ n) && sz n.toNat) (.ok (irange 0 n))
def enumI {α : Type} : Int → List α → List (Int × α)
  | _, [] => []
  | k, a :: as => (k, a) :: enumI (k + 1) as
section
variable {α β γ δ ε τ σ : Type} [Enc α] [Enc β] [Enc γ] [Enc δ] [Enc ε]
variable {Φ : Nat → List D → R D} {ρ : En}
theorem iv_p {r : R D} {k : D → R (List D)} {a : α} {t : R (List β)} (h : Sim r (.ok a)) (g : SimI (k (enc a)) t) : SimI (r.bind k) t := by
  have h : r = .ok (enc a) := h
  subst h
  exact g
theorem it_itv {A : C} {t : R (List β)} (h : SimI ((evE Φ A ρ).bind fun x => match x with
    | .list xs => .ok xs
    | _ => .stuck) t) : SimI (evI Φ (.itv A) ρ) t := by
  unfold evI; exact h
theorem it_rng1 {A : C} {t : R (List β)} (h : SimI ((evE Φ A ρ).bind fun x => match x with
    | .int j => DL.guard (decide (-(2 ^ 62) ≤ j) && sz j.toNat) (.ok (ups j.toNat 0))
    | _ => .stuck) t) : SimI (evI Φ (.rng1 A) ρ) t := by
  unfold evI; exact h
theorem it_enm {A : C} {t : R (List β)} (h : SimI ((evE Φ A ρ).bind fun x => match x with
    | .list xs => .ok (enmD 0 xs)
    | _ => .stuck) t) : SimI (evI Φ (.enm A) ρ) t := by
  unfold evI; exact h
theorem io_itv (xs : List α) : SimI (match (enc xs : D) with
    | .list xs => .ok xs
    | _ => .stuck) (.ok xs) := rfl
theorem simI_guard {b : Bool} {r : R (List D)} {t : R (List α)} (h : SimI r t) : SimI (DL.guard b r) (DL.guard b t) := by
  cases b with
  | true => exact h
  | false => trivial
theorem ups_irange (i j : Int) : ups (j - i).toNat i = (irange i j).map enc := by
  unfold ups irange
  rw [List.map_map]; rfl
theorem io_rng1 (n : Int) : SimI (match (enc n : D) with
    | .int j => DL.guard (decide (-(2 ^ 62) ≤ j) && sz j.toNat) (.ok (ups j.toNat 0))
    | _ => .stuck) (rng1R n) := by
  unfold rng1R
  refine simI_guard ?_
  show R.ok (ups n.toNat 0) = _
  have := ups_irange 0 n
  rw [Int.sub_zero] at this
  rw [this]
theorem enm_enc : ∀ (k : Nat) (xs : List α), enmD k (xs.map enc) = (enumI (k : Int) xs).map enc
  | _, [] => rfl
  | k, x :: xs => by
    have ih := enm_enc (k + 1) xs
    rw [List.map_cons, enmD, ih]; rfl
theorem io_enm (xs : List α) : SimI (match (enc xs : D) with
    | .list xs => .ok (enmD 0 xs)
    | _ => .stuck) (.ok (enumI 0 xs)) := by
  show R.ok (enmD 0 (xs.map enc)) = _
  rw [enm_enc]; rfl
def lcR (xs : List α) (c : α → R Bool) (e : α → R β) : R (List β) := match xs with
  | [] => .ok []
  | x :: xs => (c x).noX.bind fun b => if b then (e x).noX.bind fun y => (lcR xs c e).bind fun ys => .ok (y :: ys) else lcR xs c e
theorem noX_c {r : R D} {t : R Bool} {f : Bool → R (List D)} {g : Bool → R (List β)} (h : TSim r t) (k : ∀ b, SimI (f b) (g b)) : SimI ((r.bind tst).noX.bind f) (t.noX.bind g) := by
  cases t with
  | ok b =>
    have h : r.bind tst = .ok b := h
    rw [h]; exact k b
  | exc c i => trivial
  | stuck => trivial
theorem noX_e {r : R D} {t : R α} {f : D → R (List D)} {g : α → R (List β)} (h : Sim r t) (k : ∀ b, SimI (f (enc b)) (g b)) : SimI (r.noX.bind f) (t.noX.bind g) := by
  cases t with
  | ok b =>
    have h : r = .ok (enc b) := h
    subst h; exact k b
  | exc c i => trivial
  | stuck => trivial
theorem lc_go {t : Tg} {own : List Nat} {c : α → R Bool} {e : α → R β} {cc ee : En → R D} : ∀ {xs : List α}, (∀ x ∈ xs, ∃ ρ1, bindT t (enc x) ρ = .ok ρ1 ∧ TSim (cc ρ1) (c x) ∧ Sim (ee ρ1) (e x)) → SimI (lcGo (bindT t) cc ee ρ (xs.map enc)) (lcR xs c e)
  | [], _ => rfl
  | x :: xs, h => by
    obtain ⟨ρ1, h1, h2, h3⟩ := h x List.mem_cons_self
    have ih := lc_go (xs := xs) (t := t) (own := own) fun y m => h y (List.mem_cons_of_mem _ m)
    rw [List.map_cons, lcGo, lcR, h1]
    refine noX_c h2 fun b => ?_
    cases b with
    | false => exact ih
    | true =>
      refine noX_e h3 fun y => ?_
      cases hh : lcR xs c e with
      | ok ys =>
        rw [hh] at ih
        have ih : lcGo (bindT t) cc ee ρ (xs.map enc) = .ok (ys.map enc) := ih
        rw [ih]; exact rfl
      | exc c i =>
        rw [hh] at ih
        have ih : lcGo (bindT t) cc ee ρ (xs.map enc) = .exc c i := ih
        rw [ih]; exact rfl
      | stuck => trivial
theorem sim_lc0 {elt it : C} {t : Tg} {own : List Nat} {ti : R (List α)} {e : α → R β} (hi : SimI (evI Φ it ρ) ti)
    (h : ∀ x, ∃ ρ1, bindT t (enc x) (wipeD ρ own) = .ok ρ1 ∧ Sim (evE Φ elt ρ1) (e x)) : Sim (evE Φ (.lc elt t it .none_ own) ρ) (ti.bind fun xs => lcR xs (fun _ => .ok true) e) := by
  cases ti with
  | ok xs =>
    have hi : evI Φ it ρ = .ok (xs.map enc) := hi
    unfold evE
    rw [hi]
    have key := lc_go (ρ := wipeD ρ own) (t := t) (own := own) (c := fun _ => .ok true) (e := e) (cc := fun _ => .ok (.bool true)) (ee := evE Φ elt) (xs := xs) fun x _ => by
      obtain ⟨ρ1, h1, h2⟩ := h x
      exact ⟨ρ1, h1, rfl, h2⟩
    show Sim ((lcGo (bindT t) (fun _ => .ok (.bool true)) (evE Φ elt) (wipeD ρ own) (xs.map enc)).bind fun xs => .ok (.list xs)) (lcR xs (fun _ => .ok true) e)
    cases hh : lcR xs (fun _ => .ok true) e with
    | ok ys =>
      rw [hh] at key
      have key : lcGo (bindT t) (fun _ => .ok (.bool true)) (evE Φ elt) (wipeD ρ own) (xs.map enc) = .ok (ys.map enc) := key
      rw [key]; exact rfl
    | exc c i =>
      rw [hh] at key
      have key : lcGo (bindT t) (fun _ => .ok (.bool true)) (evE Φ elt) (wipeD ρ own) (xs.map enc) = .exc c i := key
      rw [key]; exact rfl
    | stuck => trivial
  | exc c i =>
    have hi : evI Φ it ρ = .exc c i := hi
    unfold evE
    rw [hi]; exact rfl
  | stuck => trivial
theorem lcR_pp (xs : List α) (p : α → Bool) (f : α → β) : lcR xs (fun x => .ok (p x)) (fun x => .ok (f x)) = .ok ((xs.filter p).map f) := by
  induction xs with
  | nil => rfl
  | cons x xs ih =>
    rw [lcR, ih]
    cases e : p x <;> simp [R.noX, e]
theorem lcR_p0 (xs : List α) (f : α → β) : lcR xs (fun _ => .ok true) (fun x => .ok (f x)) = .ok (xs.map f) := by
  have := lcR_pp xs (fun _ => true) f
  rw [this]
  congr 2
  exact List.filter_eq_self.mpr fun _ _ => rfl
theorem sim_lc0mp {elt it : C} {t : Tg} {own : List Nat} {ti : R (List α)} {e : α → β} (hi : SimI (evI Φ it ρ) ti)
    (h : ∀ x, ∃ ρ1, bindT t (enc x) (wipeD ρ own) = .ok ρ1 ∧ Sim (evE Φ elt ρ1) (.ok (e x))) : Sim (evE Φ (.lc elt t it .none_ own) ρ) (ti.bind fun xs => .ok (xs.map e)) := by
  have := sim_lc0 hi h
  simpa only [lcR_p0] using this
inductive Ctl (σ β : Type) where
  | nx (s : σ) | brk (s : σ) | ret (b : β)
def forP (xs : List α) (s : σ) (f : α → σ → R σ) : R σ := match xs with
  | [] => .ok s
  | x :: xs => (f x s).bind fun s => forP xs s f
def forC (xs : List α) (s : σ) (f : α → σ → R (Ctl σ β)) : R (Ctl σ β) := match xs with
  | [] => .ok (.nx s)
  | x :: xs => (f x s).bind fun c => match c with
    | .nx s => forC xs s f
    | .brk s => .ok (.nx s)
    | .ret b => .ok (.ret b)
def Ctl.go {τ : Type} (x : Ctl σ β) (k : σ → R τ) (h : β → R τ) : R τ := match x with
  | .nx s => k s
  | .brk s => k s
  | .ret b => h b
def OF (v : β) (r : Res) : Prop := r = .ret (enc v) ∨ ∃ ρ, r = .nx ρ ∧ enc v = .none
def OJ (E : σ → En) (s : σ) (r : Res) : Prop := r = .nx (E s)
def OL (E : σ → En) (s : σ) (r : Res) : Prop := r = .nx (E s) ∨ r = .cnt (E s)
def OC (E : σ → En) (c : Ctl σ β) (r : Res) : Prop := match c with
  | .nx s => r = .nx (E s) ∨ r = .cnt (E s)
  | .brk s => r = .brk (E s)
  | .ret b => r = .ret (enc b)
variable {O : τ → Res → Prop} {K : En → Res} {b : S}
theorem w_go {r : R D} {k : D → Res} {ta : R α} {f : α → R τ} (h : Sim r ta) (g : ∀ a, SimW ((k (enc a)).then K) (f a) O) : SimW ((r.go k).then K) (ta.bind f) O := by
  cases ta with
  | ok a =>
    have h : r = .ok (enc a) := h
    subst h
    exact g a
  | exc c i =>
    have h : r = .exc c i := h
    subst h
    exact rfl
  | stuck => trivial
theorem then_then (r : Res) (f g : En → Res) : (r.then f).then g = r.then fun ρ => (f ρ).then g := by
  cases r <;> rfl
theorem then_nx (r : Res) : r.then .nx = r := by
  cases r <;> rfl
theorem w_asg {i : Nat} {e : C} {ta : R α} {k : α → R τ} (h : Sim (evE Φ e ρ) ta) (g : ∀ a, SimW ((evS Φ b (ρ.set i (some (enc a)))).then K) (k a) O) : SimW ((evS Φ (.seq (.asg (.nm i) e) b) ρ).then K) (ta.bind k) O := by
  have : (evS Φ (.seq (.asg (.nm i) e) b) ρ).then K = ((evE Φ e ρ).go fun d => .nx (ρ.set i (some d))).then fun ρ => (evS Φ b ρ).then K := by
    simp only [evS]
    rw [then_then]
    rfl
  rw [this]
  exact w_go h g
theorem w_tup {ts : Tg} {e : C} {ta : R α} {k : α → R τ} (h : Sim (evE Φ e ρ) ta) (g : ∀ a, ∃ ρ1, bindT (.tp ts) (enc a) ρ = .ok ρ1 ∧ SimW ((evS Φ b ρ1).then K) (k a) O) : SimW ((evS Φ (.seq (.asg (.tp ts) e) b) ρ).then K) (ta.bind k) O := by
  have : (evS Φ (.seq (.asg (.tp ts) e) b) ρ).then K = ((evE Φ e ρ).go fun d => (bindT (.tp ts) d ρ).noX.go fun ρ1 => .nx ρ1).then fun ρ => (evS Φ b ρ).then K := by
    simp only [evS]
    rw [then_then]
  rw [this]
  refine w_go h fun a => ?_
  obtain ⟨ρ1, h1, h2⟩ := g a
  rw [h1]
  exact h2
theorem w_frz {n : Nat} {l : List Nat} {t : R τ} (g : SimW ((evS Φ b ρ).then K) t O) : SimW ((evS Φ (.seq (.frz n l) b) ρ).then K) t O := g
theorem w_fgt {l : List Nat} {t : R τ} (g : SimW ((evS Φ b (wipeD ρ l)).then K) t O) : SimW ((evS Φ (.seq (.fgt l) b) ρ).then K) t O := g
theorem w_nil {t : R τ} (g : SimW (K ρ) t O) : SimW ((evS Φ .nil ρ).then K) t O := g
theorem w_ret {e : C} {ta : R α} {k : α → R τ} (h : Sim (evE Φ e ρ) ta) (g : ∀ a, SimW (.ret (enc a)) (k a) O) : SimW ((evS Φ (.seq (.ret e) b) ρ).then K) (ta.bind k) O := by
  have : (evS Φ (.seq (.ret e) b) ρ).then K = ((evE Φ e ρ).go fun d => .ret d).then fun ρ => (evS Φ b ρ).then K := by
    simp only [evS]
    rw [then_then]
  rw [this]
  exact w_go h g
theorem w_retv {e : C} {ta : R τ} [Enc τ] (h : Sim (evE Φ e ρ) ta) (g : ∀ a : τ, O a (.ret (enc a))) : SimW ((evS Φ (.seq (.ret e) b) ρ).then K) ta O := by
  have := w_ret (K := K) (b := b) (O := O) (k := fun a => .ok a) h g
  cases ta <;> exact this
theorem w_expr {e : C} {ta : R α} {k : α → R τ} (h : Sim (evE Φ e ρ) ta) (g : ∀ a, SimW ((evS Φ b ρ).then K) (k a) O) : SimW ((evS Φ (.seq (.expr e) b) ρ).then K) (ta.bind k) O := by
  have : (evS Φ (.seq (.expr e) b) ρ).then K = ((evE Φ e ρ).go fun _ => .nx ρ).then fun ρ => (evS Φ b ρ).then K := by
    simp only [evS]
    rw [then_then]
  rw [this]
  exact w_go h g
theorem w_ife {c : C} {x y : S} {tc : R Bool} {t1 t2 : R τ} (h : TSim (evE Φ c ρ) tc) (g1 : SimW ((evS Φ x ρ).then fun ρ => (evS Φ b ρ).then K) t1 O) (g2 : SimW ((evS Φ y ρ).then fun ρ => (evS Φ b ρ).then K) t2 O) : SimW ((evS Φ (.seq (.ife c x y) b) ρ).then K) (tc.bind fun b => if b then t1 else t2) O := by
  have : (evS Φ (.seq (.ife c x y) b) ρ).then K = (((evE Φ c ρ).bind tst).go fun t => if t then evS Φ x ρ else evS Φ y ρ).then fun ρ => (evS Φ b ρ).then K := by
    simp only [evS]
    rw [then_then]
  rw [this]
  cases tc with
  | ok v =>
    have h : (evE Φ c ρ).bind tst = .ok v := h
    rw [h]
    cases v with
    | true => exact g1
    | false => exact g2
  | exc cc i =>
    have h : evE Φ c ρ = .exc cc i := h
    rw [h]; exact rfl
  | stuck => trivial
theorem w_ifp {c : C} {x y : S} {v : Bool} {t1 t2 : R τ} (h : TSim (evE Φ c ρ) (.ok v)) (g1 : SimW ((evS Φ x ρ).then fun ρ => (evS Φ b ρ).then K) t1 O) (g2 : SimW ((evS Φ y ρ).then fun ρ => (evS Φ b ρ).then K) t2 O) : SimW ((evS Φ (.seq (.ife c x y) b) ρ).then K) (if v then t1 else t2) O := w_ife h g1 g2
/-- a word in between -/
theorem w_mid {s : S} (E : σ → En) {t : R σ} {k : σ → R τ} (h : SimW ((evS Φ s ρ).then .nx) t (OJ E)) (g : ∀ v, SimW ((evS Φ b (E v)).then K) (k v) O) : SimW ((evS Φ (.seq s b) ρ).then K) (t.bind k) O := by
  rw [then_nx] at h
  have : (evS Φ (.seq s b) ρ).then K = (evS Φ s ρ).then fun ρ => (evS Φ b ρ).then K := by
    simp only [evS]
    rw [then_then]
  rw [this]
  cases t with
  | ok v =>
    have h : evS Φ s ρ = .nx (E v) := h
    rw [h]; exact g v
  | exc c i =>
    have h : evS Φ s ρ = .exc c i := h
    rw [h]; exact rfl
  | stuck => trivial
theorem w_join {c : C} {x y : S} {tc : R Bool} {t1 t2 : R σ} (E : σ → En) {k : σ → R τ} (h : TSim (evE Φ c ρ) tc) (g1 : SimW ((evS Φ x ρ).then .nx) t1 (OJ E)) (g2 : SimW ((evS Φ y ρ).then .nx) t2 (OJ E)) (g : ∀ v, SimW ((evS Φ b (E v)).then K) (k v) O) : SimW ((evS Φ (.seq (.ife c x y) b) ρ).then K) ((tc.bind fun b => if b then t1 else t2).bind k) O := by
  refine w_mid E ?_ g
  have : evS Φ (.ife c x y) ρ = ((evE Φ c ρ).bind tst).go fun t => if t then evS Φ x ρ else evS Φ y ρ := by
    simp only [evS]
  rw [this]
  cases tc with
  | ok v =>
    have h : (evE Φ c ρ).bind tst = .ok v := h
    rw [h]
    cases v with
    | true => exact g1
    | false => exact g2
  | exc cc i =>
    have h : evE Φ c ρ = .exc cc i := h
    rw [h]; exact rfl
  | stuck => trivial
theorem w_joinp {c : C} {x y : S} {v : Bool} {t1 t2 : R σ} (E : σ → En) {k : σ → R τ} (h : TSim (evE Φ c ρ) (.ok v)) (g1 : SimW ((evS Φ x ρ).then .nx) t1 (OJ E)) (g2 : SimW ((evS Φ y ρ).then .nx) t2 (OJ E)) (g : ∀ v, SimW ((evS Φ b (E v)).then K) (k v) O) : SimW ((evS Φ (.seq (.ife c x y) b) ρ).then K) ((if v then t1 else t2).bind k) O := w_join E h g1 g2 g
@[irreducible] def appR (xs : List α) (v : α) : R (List α) := DL.guard (decide (xs.length < sizeLine)) (.ok (xs ++ [v]))
theorem appD_s (xs : List α) (v : α) : Sim (appD (enc xs) (enc v)) (appR xs v) := by
  unfold appR
  show Sim (DL.guard (decide ((xs.map enc).length < sizeLine)) (R.ok (PyData.list (xs.map enc ++ [enc v])))) _
  rw [List.length_map]
  refine sim_guard (α := List α) ?_
  show R.ok _ = R.ok (PyData.list ((xs ++ [v]).map enc))
  rw [List.map_append]; rfl
theorem w_app {i : Nat} {e : C} {xs : List α} {tv : R α} {k : List α → R τ} (hx : ρ[i]? = some (some (enc xs))) (h : Sim (evE Φ e ρ) tv) (g : ∀ l : List α, SimW ((evS Φ b (ρ.set i (some (enc l)))).then K) (k l) O) : SimW ((evS Φ (.seq (.app i e) b) ρ).then K) (tv.bind fun v => (appR xs v).bind k) O := by
  have : (evS Φ (.seq (.app i e) b) ρ).then K = ((evE Φ e ρ).go fun v => (appD (enc xs) v).go fun x1 => .nx (ρ.set i (some x1))).then fun ρ => (evS Φ b ρ).then K := by
    simp only [evS, getS, hx, R.bind]
    rw [then_then]
    rfl
  rw [this]
  exact w_go h fun v => w_go (appD_s xs v) fun l => g l
theorem w_rse {x : Str} {e : C} {ta : R α} (h : Sim (evE Φ e ρ) ta) : SimW ((evS Φ (.seq (.rse x e) b) ρ).then K) (ta.bind fun a => (.exc x (enc a) : R τ)) O := by
  have : (evS Φ (.seq (.rse x e) b) ρ).then K = ((evE Φ e ρ).go fun d => .exc x d).then fun ρ => (evS Φ b ρ).then K := by
    simp only [evS]
    rw [then_then]
  rw [this]
  exact w_go h fun a => rfl
/-- an error is met -/
def tryR (t : R σ) (k : σ → R τ) (h : Str → D → R τ) : R τ := match t with
  | .ok s => k s
  | .exc c i => h c i
  | .stuck => .stuck
def intOf (i : D) : R Int := match i with
  | .int n => .ok n
  | _ => .stuck
theorem w_try {bd : S} {hs : List (Str × Nat × HE)} (E : σ → En) {t : R σ} {k : σ → R τ} {h : Str → D → R τ} (hb : SimW ((evS Φ bd ρ).then .nx) t (OJ E)) (hh : ∀ c i, SimW (hdl hs c i) (h c i) O) (g : ∀ s, SimW ((evS Φ b (E s)).then K) (k s) O) :
    SimW ((evS Φ (.seq (.try_ bd hs) b) ρ).then K) (tryR t k h) O := by
  rw [then_nx] at hb
  have e1 : (evS Φ (.seq (.try_ bd hs) b) ρ).then K = (match evS Φ bd ρ with
    | .exc c i => hdl hs c i
    | r => r).then fun ρ => (evS Φ b ρ).then K := by
    simp only [evS]
    rw [then_then]
    all_goals (cases evS Φ bd ρ <;> rfl)
  rw [e1]
  have nn : ∀ (hs : List (Str × Nat × HE)) (c : Str) (i : D) (f : En → Res), (hdl hs c i).then f = hdl hs c i := by
    intro hs
    induction hs with
    | nil => intro c i f; rfl
    | cons p r ih =>
      intro c i f
      obtain ⟨x, n, h⟩ := p
      unfold hdl
      split
      · cases h with
        | at_ => rfl
        | tupS s => rfl
        | obj => cases i <;> rfl
      · exact ih c i f
  cases t with
  | ok v =>
    have hb : evS Φ bd ρ = .nx (E v) := hb
    rw [hb]; exact g v
  | exc c i =>
    have hb : evS Φ bd ρ = .exc c i := hb
    rw [hb]
    show SimW ((hdl hs c i).then _) (h c i) O
    rw [nn]
    exact hh c i
  | stuck => trivial
theorem h_nil {c : Str} {i : D} : SimW (hdl [] c i) (.exc c i : R τ) O := rfl
/-- an error of ours -/
structure Err where
  cls : Str
  at_ : Int
  deriving DecidableEq
instance : Enc Err := ⟨fun e => erD e.cls e.at_⟩
instance : NotNone Err := ⟨fun _ _ => ⟨by simp [enc, Enc.enc, erD, PyData.eqv], by simp [enc, Enc.enc, erD, PyData.eqv], rfl⟩⟩
def isER (z : Str) (cs : List Str) (e : Err) : R Bool := DL.guard (cs.contains e.cls) (.ok (exm z e.cls || decide (z = ("ValueError" : Str))))
def attR (cs : List Str) (e : Err) : R Int := DL.guard (cs.contains e.cls) (.ok e.at_)
theorem h_obj {x c : Str} {n : Nat} {i : D} {r : List (Str × Nat × HE)} {k : Err → R τ} {t : R τ} (g : ∀ e : Err, SimW (.ret (enc e)) (k e) O) (h : SimW (hdl r c i) t O) : SimW (hdl ((x, n, .obj) :: r) c i) (if exm x c then (intOf i).bind fun n => k ⟨c, n⟩ else t) O := by
  unfold hdl
  cases exm x c with
  | true =>
    cases i with
    | int n => exact g ⟨c, n⟩
    | _ => trivial
  | false => exact h
theorem sim_mk {A : C} {x : Str} {t : R γ} (h : Sim ((evE Φ A ρ).bind fun d => match d with
    | .int i => .ok (erD x i)
    | _ => .stuck) t) : Sim (evE Φ (.mk x A) ρ) t := by
  unfold evE; exact h
theorem op_mk (x : Str) (i : Int) : Sim (match (enc i : D) with
    | .int i => R.ok (erD x i)
    | _ => .stuck) (.ok (Err.mk x i)) := rfl
theorem sim_isE {A : C} {z : Str} {cs : List Str} {t : R γ} (h : Sim ((evE Φ A ρ).bind fun d => match errOf d with
    | some (c, _) => DL.guard (cs.contains c) (.ok (.bool (exm z c || decide (z = ("ValueError" : Str)))))
    | none => .stuck) t) : Sim (evE Φ (.isE z cs A) ρ) t := by
  unfold evE; exact h
theorem op_isE (z : Str) (cs : List Str) (e : Err) : Sim (match errOf (enc e) with
    | some (c, _) => DL.guard (cs.contains c) (.ok (.bool (exm z c || decide (z = ("ValueError" : Str)))))
    | none => .stuck) (isER z cs e) := by
  unfold isER
  show Sim (DL.guard (cs.contains e.cls) (.ok (.bool (exm z e.cls || decide (z = ("ValueError" : Str)))))) _
  cases cs.contains e.cls with
  | true => rfl
  | false => trivial
theorem sim_att {A : C} {cs : List Str} {t : R γ} (h : Sim ((evE Φ A ρ).bind fun d => match errOf d with
    | some (c, i) => DL.guard (cs.contains c) (.ok (.int i))
    | none => .stuck) t) : Sim (evE Φ (.att cs A) ρ) t := by
  unfold evE; exact h
theorem op_att (cs : List Str) (e : Err) : Sim (match errOf (enc e) with
    | some (c, i) => DL.guard (cs.contains c) (.ok (.int i))
    | none => .stuck) (attR cs e) := by
  unfold attR
  show Sim (DL.guard (cs.contains e.cls) (.ok (.int e.at_))) _
  cases cs.contains e.cls with
  | true => rfl
  | false => trivial
theorem sim_isi {A : C} {ty : Str} {t : R γ} (h : Sim ((evE Φ A ρ).bind fun d => evIsi ty d) t) : Sim (evE Φ (.isi ty A) ρ) t := by
  unfold evE; exact h
theorem op_isiIb (x : Int) : Sim (evIsi "bool" (enc x)) (.ok false) := by
  show R.ok (PyData.bool (decide (("int" : Str) = "bool"))) = _
  rw [decide_eq_false (by decide +kernel)]; rfl
theorem op_isiIi (x : Int) : Sim (evIsi "int" (enc x)) (.ok true) := by
  show DL.guard (!false && !(false && decide (("int" : Str) = "int"))) (R.ok (PyData.bool (decide (("int" : Str) = "int")))) = _
  rw [decide_eq_true rfl]; rfl
theorem forP_sim {t : Tg} {x : S} (E : σ → En) {f : α → σ → R σ} (hb : ∀ a s, ∃ ρ1, bindT t (enc a) (E s) = .ok ρ1 ∧ SimW ((evS Φ x ρ1).then .nx) (f a s) (OL E)) : ∀ (xs : List α) (s : σ), SimW (forF (bindT t) (evS Φ x) (xs.map enc) (E s)) (forP xs s f) (OJ E)
  | [], s => rfl
  | a :: xs, s => by
    obtain ⟨ρ1, h1, h2⟩ := hb a s
    rw [then_nx] at h2
    rw [List.map_cons, forF, forP, h1]
    show SimW (match evS Φ x ρ1 with
      | .nx ρ2 => forF (bindT t) (evS Φ x) (xs.map enc) ρ2
      | .cnt ρ2 => forF (bindT t) (evS Φ x) (xs.map enc) ρ2
      | .brk ρ2 => .nx ρ2
      | r => r) _ _
    cases e : f a s with
    | ok s' =>
      rw [e] at h2
      have ih := forP_sim E hb xs s'
      rcases h2 with h2 | h2 <;> (rw [h2]; exact ih)
    | exc c i =>
      rw [e] at h2
      have h2 : evS Φ x ρ1 = .exc c i := h2
      rw [h2]; exact rfl
    | stuck => trivial
theorem w_for {t : Tg} {it : C} {x : S} {ti : R (List α)} (E : σ → En) (s0 : σ) {f : α → σ → R σ} {k : σ → R τ} (h0 : ρ = E s0) (h : SimI (evI Φ it ρ) ti)
    (hb : ∀ a s, ∃ ρ1, bindT t (enc a) (E s) = .ok ρ1 ∧ SimW ((evS Φ x ρ1).then .nx) (f a s) (OL E))
    (g : ∀ s, SimW ((evS Φ b (E s)).then K) (k s) O) : SimW ((evS Φ (.seq (.for_ t it x) b) ρ).then K) (ti.bind fun xs => (forP xs s0 f).bind k) O := by
  subst h0
  have : (evS Φ (.seq (.for_ t it x) b) (E s0)).then K = ((evI Φ it (E s0)).go fun ds => forF (bindT t) (evS Φ x) ds (E s0)).then fun ρ => (evS Φ b ρ).then K := by
    simp only [evS]
    rw [then_then]
  rw [this]
  cases ti with
  | ok xs =>
    have h : evI Φ it (E s0) = .ok (xs.map enc) := h
    rw [h]
    have key := forP_sim (Φ := Φ) (t := t) (x := x) E hb xs s0
    show SimW ((forF (bindT t) (evS Φ x) (xs.map enc) (E s0)).then _) ((forP xs s0 f).bind k) O
    cases e : forP xs s0 f with
    | ok s =>
      rw [e] at key
      have key : forF (bindT t) (evS Φ x) (xs.map enc) (E s0) = .nx (E s) := key
      rw [key]; exact g s
    | exc c i =>
      rw [e] at key
      have key : forF (bindT t) (evS Φ x) (xs.map enc) (E s0) = .exc c i := key
      rw [key]; exact rfl
    | stuck => trivial
  | exc c i =>
    have h : evI Φ it (E s0) = .exc c i := h
    rw [h]; exact rfl
  | stuck => trivial
def OD (E : σ → En) (c : Ctl σ β) (r : Res) : Prop := match c with
  | .nx s => r = .nx (E s)
  | .brk s => r = .nx (E s)
  | .ret b => r = .ret (enc b)
theorem forC_sim {t : Tg} {x : S} (E : σ → En) {f : α → σ → R (Ctl σ β)} (hb : ∀ a s, ∃ ρ1, bindT t (enc a) (E s) = .ok ρ1 ∧ SimW ((evS Φ x ρ1).then .nx) (f a s) (OC E)) : ∀ (xs : List α) (s : σ), SimW (forF (bindT t) (evS Φ x) (xs.map enc) (E s)) (forC xs s f) (OD E)
  | [], s => rfl
  | a :: xs, s => by
    obtain ⟨ρ1, h1, h2⟩ := hb a s
    rw [then_nx] at h2
    rw [List.map_cons, forF, forC, h1]
    show SimW (match evS Φ x ρ1 with
      | .nx ρ2 => forF (bindT t) (evS Φ x) (xs.map enc) ρ2
      | .cnt ρ2 => forF (bindT t) (evS Φ x) (xs.map enc) ρ2
      | .brk ρ2 => .nx ρ2
      | r => r) _ _
    cases e : f a s with
    | ok c =>
      rw [e] at h2
      cases c with
      | nx s' =>
        have ih := forC_sim E hb xs s'
        rcases h2 with h2 | h2 <;> (rw [h2]; exact ih)
      | brk s' =>
        have h2 : evS Φ x ρ1 = .brk (E s') := h2
        rw [h2]; exact rfl
      | ret v =>
        have h2 : evS Φ x ρ1 = .ret (enc v) := h2
        rw [h2]; exact rfl
    | exc c i =>
      rw [e] at h2
      have h2 : evS Φ x ρ1 = .exc c i := h2
      rw [h2]; exact rfl
    | stuck => trivial
theorem w_forC {t : Tg} {it : C} {x : S} {ti : R (List α)} (E : σ → En) (s0 : σ) {f : α → σ → R (Ctl σ β)} {k : σ → R τ} {h' : β → R τ} (h0 : ρ = E s0) (h : SimI (evI Φ it ρ) ti)
    (hb : ∀ a s, ∃ ρ1, bindT t (enc a) (E s) = .ok ρ1 ∧ SimW ((evS Φ x ρ1).then .nx) (f a s) (OC E))
    (hr : ∀ v : β, SimW (.ret (enc v)) (h' v) O)
    (g : ∀ s, SimW ((evS Φ b (E s)).then K) (k s) O) : SimW ((evS Φ (.seq (.for_ t it x) b) ρ).then K) (ti.bind fun xs => (forC xs s0 f).bind fun c => c.go k h') O := by
  subst h0
  have : (evS Φ (.seq (.for_ t it x) b) (E s0)).then K = ((evI Φ it (E s0)).go fun ds => forF (bindT t) (evS Φ x) ds (E s0)).then fun ρ => (evS Φ b ρ).then K := by
    simp only [evS]
    rw [then_then]
  rw [this]
  cases ti with
  | ok xs =>
    have h : evI Φ it (E s0) = .ok (xs.map enc) := h
    rw [h]
    have key := forC_sim (Φ := Φ) (t := t) (x := x) E hb xs s0
    show SimW ((forF (bindT t) (evS Φ x) (xs.map enc) (E s0)).then _) ((forC xs s0 f).bind _) O
    cases e : forC xs s0 f with
    | ok c =>
      rw [e] at key
      cases c with
      | nx s =>
        have key : forF (bindT t) (evS Φ x) (xs.map enc) (E s0) = .nx (E s) := key
        rw [key]; exact g s
      | brk s =>
        have key : forF (bindT t) (evS Φ x) (xs.map enc) (E s0) = .nx (E s) := key
        rw [key]; exact g s
      | ret v =>
        have key : forF (bindT t) (evS Φ x) (xs.map enc) (E s0) = .ret (enc v) := key
        rw [key]; exact hr v
    | exc c i =>
      rw [e] at key
      have key : forF (bindT t) (evS Φ x) (xs.map enc) (E s0) = .exc c i := key
      rw [key]; exact rfl
    | stuck => trivial
  | exc c i =>
    have h : evI Φ it (E s0) = .exc c i := h
    rw [h]; exact rfl
  | stuck => trivial
theorem sim_def {Fs : List Fn} {n f : Nat} {ds : List D} {F : Fn} {t : R β} (hF : Fs[f]? = some F) (hl : ds.length = F.np) (h : SimW ((evS (run Fs n) F.body (ds.map some ++ List.replicate (F.ns - F.np) none)).then .nx) t OF) : Sim (run Fs (n + 1) f ds) t := by
  rw [then_nx] at h
  have : run Fs (n + 1) f ds = match evS (run Fs n) F.body (ds.map some ++ List.replicate (F.ns - F.np) none) with
      | .ret d => .ok d
      | .nx _ => .ok .none
      | .exc c i => .exc c i
      | _ => .stuck := by
    simp only [DL.run, hF, if_pos hl]
    try rfl
  rw [this]
  cases t with
  | ok v =>
    rcases h with h | ⟨ρ, h, h2⟩
    · rw [h]; exact rfl
    · rw [h]
      show R.ok PyData.none = R.ok (enc v)
      rw [h2]
  | exc c i =>
    have h : _ = Res.exc c i := h
    rw [h]; exact rfl
  | stuck => trivial
end
end DT
set_option Elab.async false
set_option linter.all false
set_option maxRecDepth 100000
set_option maxHeartbeats 1000000
namespace DT
open PySem DL
section
variable {α β γ σ : Type}
@[simp] theorem rb_okr (x : R α) : (x.bind fun a => R.ok a) = x := by cases x <;> rfl
@[simp] theorem rb_assoc (x : R α) (f : α → R β) (g : β → R γ) : (x.bind f).bind g = x.bind fun a => (f a).bind g := by cases x <;> rfl
inductive Ok (t : R α) (Q : α → Prop) : Prop where
  | mk (a : α) (h : t = .ok a) (q : Q a)
theorem Ok.ret {a : α} {Q : α → Prop} (q : Q a) : Ok (.ok a) Q := ⟨a, rfl, q⟩
theorem Ok.bind {t : R α} {f : α → R β} {P : α → Prop} {Q : β → Prop} (h : Ok t P) (g : ∀ a, P a → Ok (f a) Q) : Ok (t.bind f) Q := by
  obtain ⟨a, rfl, p⟩ := h
  exact g a p
theorem Ok.eq {t : R α} {f : α → R β} {a : α} {Q : β → Prop} (h : t = .ok a) (g : Ok (f a) Q) : Ok (t.bind f) Q := by
  subst h; exact g
theorem Ok.imp {t : R α} {P Q : α → Prop} (h : Ok t P) (g : ∀ a, P a → Q a) : Ok t Q := by
  obtain ⟨a, e, p⟩ := h
  exact ⟨a, e, g a p⟩
theorem Ok.get {t : R α} {a : α} (h : Ok t fun b => b = a) : t = .ok a := by
  obtain ⟨b, e, rfl⟩ := h
  exact e
theorem Ok.of {t : R α} {a : α} {Q : α → Prop} (h : t = .ok a) (q : Q a) : Ok t Q := ⟨a, h, q⟩
theorem Ok.ite {b : Bool} {t u : R α} {Q : α → Prop} (h1 : b = true → Ok t Q) (h2 : b = false → Ok u Q) : Ok (if b then t else u) Q := by
  cases b with
  | true => exact h1 rfl
  | false => exact h2 rfl
/-- a walk, by what holds ahead of each turn -/
theorem Ok.forP {xs : List α} {s : σ} {f : α → σ → R σ} (I : Nat → σ → Prop) (h0 : I 0 s) (hs : ∀ (i : Nat) (hi : i < xs.length) (s : σ), I i s → Ok (f xs[i] s) (I (i + 1))) : Ok (forP xs s f) (I xs.length) := by
  induction xs generalizing s I with
  | nil => exact .ret h0
  | cons x xs ih =>
    unfold DT.forP
    refine (hs 0 (Nat.zero_lt_succ _) s h0).bind fun s' h' => ?_
    exact ih (fun i => I (i + 1)) h' fun i hi s q => hs (i + 1) (Nat.succ_lt_succ hi) s q
/-- .. each of a kind -/
theorem Ok.lc {xs : List α} {e : α → R β} {P : α → β → Prop} (g : ∀ x ∈ xs, Ok (e x) (P x)) : Ok (lcR xs (fun _ => .ok true) e) fun ys => ys.length = xs.length ∧ ∀ (i : Nat) (hi : i < xs.length) (y : β), ys[i]? = some y → P xs[i] y := by
  induction xs with
  | nil => exact .ret ⟨rfl, fun i hi => absurd hi (Nat.not_lt_zero _)⟩
  | cons x xs ih =>
    obtain ⟨y, e1, p⟩ := g x List.mem_cons_self
    obtain ⟨ys, e2, l, q⟩ := ih fun z m => g z (List.mem_cons_of_mem _ m)
    refine .of (a := y :: ys) (by simp [lcR, e1, e2]) ⟨by simp [l], fun i hi z e => ?_⟩
    cases i with
    | zero => simp at e; subst e; exact p
    | succ i => exact q i (by simpa using hi) z (by simpa using e)
theorem sz_ok {n : Nat} (h : n ≤ 16777216) : sz n = true := by
  unfold sz; rw [sizeLine_eq]; exact decide_eq_true h
theorem appR_ok {xs : List α} {x : α} (h : xs.length < 16777216) : appR xs x = .ok (xs ++ [x]) := by
  unfold appR; rw [sizeLine_eq, decide_eq_true h]; rfl
theorem rng1_ok {n : Int} (h0 : -1000000000 ≤ n) (h1 : n ≤ 16777216) : rng1R n = .ok (irange 0 n) := by
  unfold rng1R
  rw [sz_ok (by omega), decide_eq_true (show -(2 ^ 62) ≤ n by omega)]; rfl
theorem mulR_ok {i j : Int} (hi : small i) (hj : small j) : mulR i j = .ok (i * j) := by
  unfold mulR
  have := ev_mul hi hj
  have h : i.natAbs.log2 + j.natAbs.log2 < 1000000 := by have := hi.log; have := hj.log; omega
  rw [decide_eq_true h]; rfl
theorem modR_ok {i j : Int} (h : 0 < j) : modR i j = .ok (i % j) := by
  unfold modR
  rw [decide_eq_true h]; rfl
theorem ixR_ok {xs : List α} {i : Int} {n : Nat} {a : α} (h : i = (n : Nat)) (g : xs[n]? = some a) : ixR xs i = .ok a := by
  unfold ixR
  rw [h, L2.atI_nat g]
theorem ixR_get {xs : List α} {i : Int} (h0 : 0 ≤ i) (h : i.toNat < xs.length) : ixR xs i = .ok xs[i.toNat] := ixR_ok (n := i.toNat) (by omega) (List.getElem?_eq_getElem h)
theorem ixR_nat {xs : List α} {n : Nat} (h : n < xs.length) : ixR xs (n : Int) = .ok xs[n] := ixR_ok (n := n) rfl (List.getElem?_eq_getElem h)
theorem irange_len (a b : Int) : (irange a b).length = (b - a).toNat := by simp [irange]
theorem irange_get {a b : Int} {i : Nat} (h : i < (irange a b).length) : (irange a b)[i] = a + (i : Nat) := by simp [irange]
theorem mem_irange {a b x : Int} : x ∈ irange a b ↔ a ≤ x ∧ x < b := by
  simp only [irange, List.mem_map, List.mem_range]
  constructor
  · rintro ⟨k, h, rfl⟩; omega
  · rintro ⟨h1, h2⟩; exact ⟨(x - a).toNat, by omega, by omega⟩
end
end DT
set_option Elab.async false
set_option linter.all false
set_option maxRecDepth 100000
set_option maxHeartbeats 1000000
namespace DT
open PySem DL PyProof.Rows
theorem strOk_iff {x : Str} : PyData.strOk x = true ↔ ∀ c ∈ x.cps.toList, c < 0x110000 := by
  unfold PyData.strOk
  rw [Array.all_eq_true_iff_forall_mem]
  simp
theorem strOk_of (s : String) : PyData.strOk (Str.ofString s) = true := by
  rw [strOk_iff]
  intro c m
  rw [signs_ofString] at m
  obtain ⟨ch, _, rfl⟩ := List.mem_map.mp m
  have := ch.valid
  simp only [UInt32.isValidChar, Nat.isValidChar] at this
  show ch.val.toNat < _
  omega
theorem strOk_app {x y : Str} (h : PyData.strOk x = true) (g : PyData.strOk y = true) : PyData.strOk (x ++ y) = true := by
  rw [strOk_iff] at *
  intro c m
  rcases mem_cps_append.mp m with m | m
  · exact h c m
  · exact g c m
theorem strOk_from : ∀ (ts : List Str) (k : Nat) (acc : Str), PyData.strOk acc = true → (∀ t ∈ ts, PyData.strOk t = true) → PyData.strOk (textFrom k acc ts) = true
  | [], _, _, h, _ => h
  | t :: ts, k, acc, h, g => strOk_from ts (k + 1) _ (strOk_app (strOk_app h (strOk_of _)) (g t List.mem_cons_self)) fun u m => g u (List.mem_cons_of_mem _ m)
theorem strOk_list {ts : List Str} (h : ∀ t ∈ ts, PyData.strOk t = true) : PyData.strOk (listText ts) = true :=
  strOk_app (strOk_from ts 0 _ (strOk_of _) h) (strOk_of _)
theorem strOk_join : ∀ {ts : List Str}, (∀ t ∈ ts, PyData.strOk t = true) → PyData.strOk (Str.join ", " ts) = true
  | [], _ => by rw [join_nil, strOk_iff]; intro c m; exact absurd m (by decide +revert)
  | [x], h => by rw [join_one]; exact h x List.mem_cons_self
  | x :: y :: r, h => by
    rw [join_cons_cons]
    exact strOk_app (strOk_app (h x List.mem_cons_self) (strOk_of _)) (strOk_join fun t m => h t (List.mem_cons_of_mem _ m))
theorem strOk_tuple {ts : List Str} (h : ∀ t ∈ ts, PyData.strOk t = true) : PyData.strOk (tupleText ts) = true := by
  unfold tupleText
  exact strOk_app (strOk_app (strOk_of _) (strOk_join h)) (by split <;> exact strOk_of _)
/-- what is shown, and how long it is -/
structure Shown (n p : Nat) (d : D) : Prop where
  sh : d.showable = true
  nd : d.hasDict = false
  len : d.shown.length ≤ n
  dp : d.depth ≤ p
  ok : PyData.strOk d.shown = true
class Show (α : Type) [Enc α] where
  sm : Nat → α → Prop
  wt : Nat → α → Nat
  dp : Nat
  spec : ∀ d a, 0 < d → d ≤ 570 → sm d a → Shown (wt d a) dp (enc a)
instance : Show Int := ⟨fun d i => i.natAbs < 10 ^ d, fun d _ => d + 1, 1, fun d i h0 h1 h => by
  have h2 : i.natAbs < 2 ^ 1920 := Nat.lt_of_lt_of_le h (Nat.le_trans (Nat.pow_le_pow_right (by decide) h1) (by decide +kernel))
  refine ⟨?_, by simp [enc, Enc.enc, PyData.hasDict], ?_, by simp [enc, Enc.enc, PyData.depth], strOk_of _⟩
  · show PyData.showable (.int i) = true
    simp only [PyData.showable]
    refine decide_eq_true ?_
    by_cases e : i.natAbs = 0
    · rw [e]; decide
    · exact (Nat.log2_lt e).mpr h2
  · show (Str.ofString (toString i)).length ≤ d + 1
    rw [PySem.ofString_length]
    exact int_text_length_le10 h0 h⟩
instance : Show Bool := ⟨fun _ _ => True, fun _ _ => 5, 1, fun d i h0 h1 h => by
  cases i
  · exact ⟨by decide, by decide, by decide, by simp [enc, Enc.enc, PyData.depth], strOk_of _⟩
  · exact ⟨by decide, by decide, by decide, by simp [enc, Enc.enc, PyData.depth], strOk_of _⟩⟩
theorem shown_none {n p : Nat} (h : 4 ≤ n) (h2 : 1 ≤ p) : Shown n p .none := ⟨by decide, by decide, Nat.le_trans (by decide) h, Nat.le_trans (by simp [PyData.depth]) h2, strOk_of _⟩
theorem showAll : ∀ {ds : List D} {ns : List Nat} {p : Nat}, ds.length = ns.length → (∀ x ∈ ds.zip ns, Shown x.2 p x.1) → PyData.showableAll ds = true ∧ PyData.hasDictAll ds = false ∧ ((PyData.shownAll ds).map (·.length)).sum ≤ ns.sum ∧ PyData.depthAll ds ≤ p ∧ ∀ t ∈ PyData.shownAll ds, PyData.strOk t = true
  | [], [], p, _, _ => by simp [PyData.showableAll, PyData.hasDictAll, PyData.shownAll, PyData.depthAll]
  | d :: ds, n :: ns, p, hl, h => by
    obtain ⟨h1, h2, h3, h4, h5⟩ := showAll (ds := ds) (ns := ns) (by simpa using hl) fun x m => h x (List.mem_cons_of_mem _ m)
    have g := h (d, n) List.mem_cons_self
    simp only [PyData.showableAll, PyData.hasDictAll, PyData.shownAll, PyData.depthAll, List.map_cons, List.sum_cons]
    refine ⟨by rw [g.sh, h1]; rfl, by rw [g.nd, h2]; rfl, Nat.add_le_add g.len h3, Nat.max_le.mpr ⟨g.dp, h4⟩, ?_⟩
    intro t m
    rcases List.mem_cons.mp m with m | m
    · subst m; exact g.ok
    · exact h5 t m
theorem shown_list {ds : List D} {ns : List Nat} {p : Nat} (hl : ds.length = ns.length) (h : ∀ x ∈ ds.zip ns, Shown x.2 p x.1) : Shown (ns.sum + 2 * ns.length + 3) (p + 1) (.list ds) := by
  obtain ⟨h1, h2, h3, h4, h5⟩ := showAll hl h
  refine ⟨by simpa only [PyData.showable] using h1, by simpa only [PyData.hasDict] using h2, ?_, by simp only [PyData.depth]; omega, by simp only [PyData.shown]; exact strOk_list h5⟩
  have := listText_len_le (PyData.shownAll ds)
  have e := PyData.shownAll_length ds
  simp only [PyData.shown]
  omega
theorem shown_tuple {ds : List D} {ns : List Nat} {p : Nat} (hl : ds.length = ns.length) (h : ∀ x ∈ ds.zip ns, Shown x.2 p x.1) : Shown (ns.sum + 2 * ns.length + 3) (p + 1) (.tuple ds) := by
  obtain ⟨h1, h2, h3, h4, h5⟩ := showAll hl h
  refine ⟨by simpa only [PyData.showable] using h1, by simpa only [PyData.hasDict] using h2, ?_, by simp only [PyData.depth]; omega, by simp only [PyData.shown]; exact strOk_tuple h5⟩
  have := tupleText_len_le (PyData.shownAll ds)
  have e := PyData.shownAll_length ds
  simp only [PyData.shown]
  omega
section
variable {α β γ δ : Type} [Enc α] [Enc β] [Enc γ] [Enc δ]
theorem zip_maps (f : α → D) (g : α → Nat) : ∀ xs : List α, (xs.map f).zip (xs.map g) = xs.map fun x => (f x, g x)
  | [] => rfl
  | x :: xs => by simp [zip_maps f g xs]
theorem Shown.up {n m p q : Nat} {d : D} (h : Shown n p d) (hn : n ≤ m) (hp : p ≤ q) : Shown m q d := ⟨h.sh, h.nd, Nat.le_trans h.len hn, Nat.le_trans h.dp hp, h.ok⟩
instance [Show α] : Show (List α) := ⟨fun d xs => ∀ x ∈ xs, Show.sm d x, fun d xs => (xs.map (Show.wt d)).sum + 2 * xs.length + 3, Show.dp α + 1, fun d xs h0 h1 h => by
  have := shown_list (ds := xs.map enc) (ns := xs.map (Show.wt d)) (p := Show.dp α) (by simp) fun x m => by
    rw [zip_maps] at m
    obtain ⟨a, ha, rfl⟩ := List.mem_map.mp m
    exact Show.spec d a h0 h1 (h a ha)
  rw [List.length_map] at this
  exact this⟩
instance [Show α] : Show (Tup α) := ⟨fun d xs => ∀ x ∈ xs.l, Show.sm d x, fun d xs => (xs.l.map (Show.wt d)).sum + 2 * xs.l.length + 3, Show.dp α + 1, fun d xs h0 h1 h => by
  have := shown_tuple (ds := xs.l.map enc) (ns := xs.l.map (Show.wt d)) (p := Show.dp α) (by simp) fun x m => by
    rw [zip_maps] at m
    obtain ⟨a, ha, rfl⟩ := List.mem_map.mp m
    exact Show.spec d a h0 h1 (h a ha)
  rw [List.length_map] at this
  exact this⟩
instance [Show α] : Show (Option α) := ⟨fun d x => match x with
  | none => True
  | some a => Show.sm d a, fun d x => match x with
  | none => 4
  | some a => Show.wt d a, max 1 (Show.dp α), fun d x h0 h1 h => by
  cases x with
  | none => exact shown_none (Nat.le_refl _) (Nat.le_max_left _ _)
  | some a => exact (Show.spec d a h0 h1 h).up (Nat.le_refl _) (Nat.le_max_right _ _)⟩
instance [Show α] [Show β] : Show (α × β) := ⟨fun d p => Show.sm d p.1 ∧ Show.sm d p.2, fun d p => Show.wt d p.1 + Show.wt d p.2 + 7, max (Show.dp α) (Show.dp β) + 1, fun d p h0 h1 h => by
  refine (shown_tuple (ds := [enc p.1, enc p.2]) (ns := [Show.wt d p.1, Show.wt d p.2]) (p := max (Show.dp α) (Show.dp β)) rfl fun x m => ?_).up (by simp) (Nat.le_refl _)
  simp only [List.zip_cons_cons, List.zip_nil_right, List.mem_cons, List.not_mem_nil, or_false] at m
  rcases m with rfl | rfl
  · exact (Show.spec d p.1 h0 h1 h.1).up (Nat.le_refl _) (by omega)
  · exact (Show.spec d p.2 h0 h1 h.2).up (Nat.le_refl _) (by omega)⟩
instance [Show α] [Show β] [Show γ] : Show (T3 α β γ) := ⟨fun d p => Show.sm d p.a ∧ Show.sm d p.b ∧ Show.sm d p.c, fun d p => Show.wt d p.a + Show.wt d p.b + Show.wt d p.c + 9, max (max (Show.dp α) (Show.dp β)) (Show.dp γ) + 1, fun d p h0 h1 h => by
  refine (shown_tuple (ds := [enc p.a, enc p.b, enc p.c]) (ns := [Show.wt d p.a, Show.wt d p.b, Show.wt d p.c]) (p := max (max (Show.dp α) (Show.dp β)) (Show.dp γ)) rfl fun x m => ?_).up (by simp; omega) (Nat.le_refl _)
  simp only [List.zip_cons_cons, List.zip_nil_right, List.mem_cons, List.not_mem_nil, or_false] at m
  rcases m with rfl | rfl | rfl
  · exact (Show.spec d p.a h0 h1 h.1).up (Nat.le_refl _) (by omega)
  · exact (Show.spec d p.b h0 h1 h.2.1).up (Nat.le_refl _) (by omega)
  · exact (Show.spec d p.c h0 h1 h.2.2).up (Nat.le_refl _) (by omega)⟩
instance [Show α] [Show β] [Show γ] [Show δ] : Show (T4 α β γ δ) := ⟨fun d p => Show.sm d p.a ∧ Show.sm d p.b ∧ Show.sm d p.c ∧ Show.sm d p.d, fun d p => Show.wt d p.a + Show.wt d p.b + Show.wt d p.c + Show.wt d p.d + 11, max (max (max (Show.dp α) (Show.dp β)) (Show.dp γ)) (Show.dp δ) + 1, fun d p h0 h1 h => by
  refine (shown_tuple (ds := [enc p.a, enc p.b, enc p.c, enc p.d]) (ns := [Show.wt d p.a, Show.wt d p.b, Show.wt d p.c, Show.wt d p.d]) (p := max (max (max (Show.dp α) (Show.dp β)) (Show.dp γ)) (Show.dp δ)) rfl fun x m => ?_).up (by simp; omega) (Nat.le_refl _)
  simp only [List.zip_cons_cons, List.zip_nil_right, List.mem_cons, List.not_mem_nil, or_false] at m
  rcases m with rfl | rfl | rfl | rfl
  · exact (Show.spec d p.a h0 h1 h.1).up (Nat.le_refl _) (by omega)
  · exact (Show.spec d p.b h0 h1 h.2.1).up (Nat.le_refl _) (by omega)
  · exact (Show.spec d p.c h0 h1 h.2.2.1).up (Nat.le_refl _) (by omega)
  · exact (Show.spec d p.d h0 h1 h.2.2.2).up (Nat.le_refl _) (by omega)⟩
end
end DT
set_option Elab.async false
set_option linter.all false
set_option maxRecDepth 100000
set_option maxHeartbeats 1000000
namespace TT
open PySem DL DT
@[irreducible] def t_law_draws (script : Script) : R (List Int) :=
  (R.ok ([] : List Int) : R (List Int)).bind fun draws =>
  (rng1R (minI 63 (script.ns.length : Int))).bind fun xs16 => (forP xs16 draws (fun (k : Int) (draws : List Int) =>
  ((ixR script.ns k).bind fun v1 => R.ok (absI v1)).bind fun rest =>
  if decide ((10 : Int) ^ (18 : Int).toNat ≤ rest) then
  (rng1R 60).bind fun xs4 => (forP xs4 (draws, rest) (fun (turn : Int) (s2 : (List Int) × Int) =>
  if decide (0 < s2.2) then
  (R.ok (s2.2 % 65536) : R Int).bind fun v3 => (appR s2.1 v3).bind fun draws =>
  (R.ok (s2.2 / 65536) : R Int).bind fun rest =>
  R.ok (draws, rest)
  else
  R.ok (s2.1, s2.2))).bind fun s2 =>
  R.ok s2.1
  else
  ((((mulR rest 48271).bind fun v5 => (mulR (k + 1) 69621).bind fun v6 => R.ok (v5 + v6)).bind fun v7 => R.ok v7).bind fun v8 => R.ok (v8 % 2147483647)).bind fun mixed =>
  (((((mulR mixed 16807).bind fun v9 => (mulR 11 k).bind fun v10 => R.ok (v9 + v10)).bind fun v11 => R.ok (v11 + 5)).bind fun v12 => R.ok v12).bind fun v13 => R.ok (v13 % 2147483629)).bind fun mixed =>
  (R.ok (mixed % 65536) : R Int).bind fun v14 => (appR draws v14).bind fun draws =>
  (R.ok ((mixed / 65536) % 32768) : R Int).bind fun v15 => (appR draws v15).bind fun draws =>
  R.ok draws)).bind fun draws =>
  R.ok draws
@[irreducible] def t_law_mix (draws : List Int) (k : Int) (many : Int) : R Int :=
  (R.ok 0 : R Int).bind fun cell =>
  (if decide (0 < (draws.length : Int)) then
  ((modR k (draws.length : Int)).bind fun v1 => ixR draws v1).bind fun cell =>
  R.ok cell
  else
  R.ok cell : R Int).bind fun cell =>
  if decide (k < (draws.length : Int)) then
  modR cell many
  else
  (((((mulR cell 7919).bind fun v2 => (mulR k 104729).bind fun v3 => R.ok (v2 + v3)).bind fun v4 => R.ok v4).bind fun v5 => R.ok (v5 / 3)).bind fun v6 => R.ok v6).bind fun v7 => modR v7 many
/-- the draws -/
def Drawn (ds : List Int) : Prop := (∀ d ∈ ds, 0 ≤ d ∧ d < 65536) ∧ ds.length ≤ 4000
theorem small_of {i : Int} (h0 : -1000000000000000000000000 ≤ i) (h1 : i ≤ 1000000000000000000000000) : small i := by
  unfold small; omega
theorem mix_ok {ds : List Int} {k many : Int} (hd : Drawn ds) (hk : 0 ≤ k) (hk2 : k < 1000000000) (hm : 0 < many) : Ok (t_law_mix ds k many) fun r => 0 ≤ r ∧ r < many := by
  have fin : ∀ x : Int, 0 ≤ x % many ∧ x % many < many := fun x => ⟨Int.emod_nonneg _ (by omega), Int.emod_lt_of_pos _ hm⟩
  unfold t_law_mix
  refine Ok.eq rfl ?_
  refine Ok.bind (P := fun c => 0 ≤ c ∧ c < 65536) ?_ ?_
  · refine Ok.ite (fun h => ?_) fun h => .ret ⟨by omega, by omega⟩
    have h : (0 : Int) < ds.length := of_decide_eq_true h
    have h1 : 0 ≤ k % (ds.length : Int) := Int.emod_nonneg _ (by omega)
    have h2 : k % (ds.length : Int) < ds.length := Int.emod_lt_of_pos _ h
    rw [modR_ok h]
    simp only [rb_ok, rb_okr]
    exact .of (ixR_get h1 (by omega)) (hd.1 _ (List.getElem_mem _))
  · rintro c ⟨c0, c1⟩
    refine Ok.ite (fun h => ?_) fun h => ?_
    · rw [modR_ok hm]; exact .ret (fin _)
    · rw [mulR_ok (small_of (by omega) (by omega)) (small_of (by omega) (by omega)), mulR_ok (small_of (by omega) (by omega)) (small_of (by omega) (by omega))]
      simp only [rb_ok]
      rw [modR_ok hm]; exact .ret (fin _)
def Low (ds : List Int) : Prop := ∀ d ∈ ds, 0 ≤ d ∧ d < 65536
theorem Low.app {ds : List Int} (h : Low ds) {x : Int} (h0 : 0 ≤ x) (h1 : x < 65536) : Low (ds ++ [x]) := fun d m => by
  rcases List.mem_append.mp m with m | m
  · exact h d m
  · simp at m; subst m; exact ⟨h0, h1⟩
theorem draws_ok {ns : List Int} (hn : ns.length ≤ 63) : Ok (t_law_draws ⟨ns⟩) Drawn := by
  unfold t_law_draws
  simp only [rb_ok, rb_okr, rb_assoc]
  have e : minI 63 (ns.length : Int) = ns.length := by unfold minI; split <;> omega
  rw [e, rng1_ok (by omega) (by omega)]
  refine Ok.imp (Ok.forP (fun i ds => Low ds ∧ ds.length ≤ 60 * i) ⟨fun _ m => (nomatch m), by simp⟩ ?_) ?_
  · rintro i hi ds ⟨low, len⟩
    have hi' : i < ns.length := by rw [irange_len] at hi; omega
    rw [irange_get, Int.zero_add, ixR_nat hi']
    simp only [rb_ok]
    obtain ⟨r, hr, r0⟩ : ∃ r : Int, absI ns[i] = r ∧ 0 ≤ r := ⟨_, rfl, by unfold absI; split <;> omega⟩
    rw [hr]
    have hlen : ds.length ≤ 60 * 63 := by omega
    refine Ok.ite (fun h => ?_) fun h => ?_
    · refine Ok.eq (rng1_ok (by omega) (by omega)) ?_
      refine Ok.bind (Ok.forP (fun j (s : List Int × Int) => Low s.1 ∧ s.1.length ≤ ds.length + j) ⟨low, Nat.le_refl _⟩ ?_) ?_
      · rintro j hj ⟨ds', r'⟩ ⟨low', len'⟩
        have hj : j < 60 := by rw [irange_len] at hj; exact hj
        refine Ok.ite (fun h => ?_) fun h => .ret ⟨low', by dsimp only at len' ⊢; omega⟩
        have h : 0 < r' := of_decide_eq_true h
        dsimp only at low' len' ⊢
        rw [appR_ok (by omega)]
        simp only [rb_ok]
        exact .ret ⟨low'.app (by omega) (by omega), by rw [List.length_append, List.length_singleton]; omega⟩
      · rintro ⟨ds', r'⟩ ⟨low', len'⟩
        refine .ret ⟨low', ?_⟩
        dsimp only at len' ⊢
        rw [irange_len] at len'
        omega
    · have h : ¬ ((10 : Int) ^ 18 ≤ r) := of_decide_eq_false h
      have r1 : r < 1000000000000000000 := by omega
      rw [mulR_ok (small_of (by omega) (by omega)) (small_of (by omega) (by omega)), mulR_ok (small_of (by omega) (by omega)) (small_of (by omega) (by omega))]
      simp only [rb_ok]
      obtain ⟨m1, e1⟩ : ∃ m : Int, (r * 48271 + ((i : Nat) + 1) * 69621) % 2147483647 = m := ⟨_, rfl⟩
      have b1 : 0 ≤ m1 ∧ m1 < 2147483647 := by omega
      rw [e1, mulR_ok (small_of (by omega) (by omega)) (small_of (by omega) (by omega)), mulR_ok (small_of (by omega) (by omega)) (small_of (by omega) (by omega))]
      simp only [rb_ok]
      obtain ⟨m2, e2⟩ : ∃ m : Int, (m1 * 16807 + 11 * (i : Nat) + 5) % 2147483629 = m := ⟨_, rfl⟩
      have b2 : 0 ≤ m2 ∧ m2 < 2147483629 := by omega
      rw [e2, appR_ok (by omega)]
      simp only [rb_ok]
      rw [appR_ok (by rw [List.length_append, List.length_singleton]; omega)]
      exact .ret ⟨(low.app (by omega) (by omega)).app (by omega) (by omega), by simp; omega⟩
  · rintro ds ⟨low, len⟩
    rw [irange_len] at len
    exact ⟨low, by omega⟩
end TT
set_option Elab.async false
set_option linter.all false
set_option maxRecDepth 100000
namespace K00
open PySem PySem.Spec PyProof.Rows L2 DL
def top (i : Nat) : Stmt := PySem.Challenge.pw_examworks_k00_errors_are_apart.main.body.getD i (.Pass ⟨0, 0, 0, 0⟩)
abbrev ECS : List Str := [("BadAnswer" : Str), ("BadBoundary" : Str), ("BadBox" : Str), ("BadCounts" : Str), ("BadCut" : Str), ("BadDay" : Str), ("BadEase" : Str), ("BadEnemy" : Str), ("BadEntailment" : Str), ("BadForms" : Str), ("BadFraction" : Str), ("BadGroup" : Str), ("BadItem" : Str), ("BadLaw" : Str), ("BadLink" : Str), ("BadMemory" : Str), ("BadNeed" : Str), ("BadNoise" : Str), ("BadOffer" : Str), ("BadPath" : Str), ("BadPattern" : Str), ("BadPlan" : Str), ("BadPrice" : Str), ("BadPupil" : Str), ("BadRating" : Str), ("BadRoom" : Str), ("BadRow" : Str), ("BadSide" : Str), ("BadSign" : Str), ("BadState" : Str), ("BadSum" : Str), ("BadTest" : Str), ("BadTop" : Str), ("BadVotes" : Str), ("HallError" : Str), ("NotASet" : Str), ("NotFull" : Str), ("OutOfRange" : Str), ("TooMany" : Str), ("Unlike" : Str), ("WrongSize" : Str)]
def b__law_draws : S :=
(.seq (.asg (.nm 1) (.lst .nil))
(.seq (.frz 1 [1])
(.seq (.for_ (.nm 2) (.rng1 (.bi .min2 (.cons (.cI 63) (.cons (.bi .len (.cons (.var 0) .nil)) .nil))))
(.seq (.asg (.nm 3) (.bi .abs (.cons (.ix (.var 0) (.var 2)) .nil)))
(.seq (.frz 0 [3])
(.seq (.ife (.cmp .ge (.var 3) (.bin .pow (.cI 10) (.cI 18)))
(.seq (.fgt [4])
(.seq (.for_ (.nm 4) (.rng1 (.cI 60))
(.seq (.ife (.cmp .gt (.var 3) (.cI 0))
(.seq (.app 1 (.bin .mod (.bi .int (.cons (.var 3) .nil)) (.cI 65536)))
(.seq (.asg (.nm 3) (.bin .fdiv (.var 3) (.cI 65536)))
(.seq (.frz 0 [3])
.nil)))
.nil)
(.seq (.fgt [4])
.nil)))
(.seq (.fgt [3, 4, 5])
.nil)))
(.seq (.asg (.nm 5) (.bin .mod (.bi .int (.cons (.bin .add (.bin .mul (.var 3) (.cI 48271)) (.bin .mul (.bin .add (.var 2) (.cI 1)) (.cI 69621))) .nil)) (.cI 2147483647)))
(.seq (.frz 0 [5])
(.seq (.asg (.nm 5) (.bin .mod (.bi .int (.cons (.bin .add (.bin .add (.bin .mul (.var 5) (.cI 16807)) (.bin .mul (.cI 11) (.var 2))) (.cI 5)) .nil)) (.cI 2147483629)))
(.seq (.frz 0 [5])
(.seq (.app 1 (.bin .mod (.bi .int (.cons (.var 5) .nil)) (.cI 65536)))
(.seq (.app 1 (.bin .mod (.bi .int (.cons (.bin .fdiv (.var 5) (.cI 65536)) .nil)) (.cI 32768)))
(.seq (.fgt [3, 4, 5])
.nil))))))))
(.seq (.fgt [2, 3, 4, 5])
.nil)))))
(.seq (.frz 0 [1])
(.seq (.ret (.var 1))
.nil)))))
def f__law_draws : Fn := ⟨1, 6, 0, b__law_draws⟩
abbrev N__law_draws : List Str := ["script", "draws", "k", "rest", "turn", "mixed"]
abbrev p__law_draws : List Str := ["script"]
abbrev s__law_draws : Stmt := top 48
def b__law_made : S :=
(.seq (.ret (.lst (.cons (.mk "OutOfRange" (.bin .add (.var 0) (.cI 0))) (.cons (.mk "TooMany" (.bin .add (.var 0) (.cI 1))) (.cons (.mk "WrongSize" (.bin .add (.var 0) (.cI 2))) (.cons (.mk "BadRow" (.bin .add (.var 0) (.cI 3))) (.cons (.mk "NotFull" (.bin .add (.var 0) (.cI 4))) (.cons (.mk "BadFraction" (.bin .add (.var 0) (.cI 5))) (.cons (.mk "NotASet" (.bin .add (.var 0) (.cI 6))) (.cons (.mk "BadState" (.bin .add (.var 0) (.cI 7))) (.cons (.mk "BadEntailment" (.bin .add (.var 0) (.cI 8))) (.cons (.mk "BadPath" (.bin .add (.var 0) (.cI 9))) (.cons (.mk "BadLaw" (.bin .add (.var 0) (.cI 10))) (.cons (.mk "BadPrice" (.bin .add (.var 0) (.cI 11))) (.cons (.mk "BadNoise" (.bin .add (.var 0) (.cI 12))) (.cons (.mk "BadAnswer" (.bin .add (.var 0) (.cI 13))) (.cons (.mk "BadSum" (.bin .add (.var 0) (.cI 14))) (.cons (.mk "BadRating" (.bin .add (.var 0) (.cI 15))) (.cons (.mk "BadOffer" (.bin .add (.var 0) (.cI 16))) (.cons (.mk "BadLink" (.bin .add (.var 0) (.cI 17))) (.cons (.mk "BadItem" (.bin .add (.var 0) (.cI 18))) (.cons (.mk "BadEnemy" (.bin .add (.var 0) (.cI 19))) (.cons (.mk "BadPlan" (.bin .add (.var 0) (.cI 20))) (.cons (.mk "Unlike" (.bin .add (.var 0) (.cI 21))) (.cons (.mk "BadNeed" (.bin .add (.var 0) (.cI 22))) (.cons (.mk "BadSide" (.bin .add (.var 0) (.cI 23))) (.cons (.mk "BadForms" (.bin .add (.var 0) (.cI 24))) (.cons (.mk "BadBoundary" (.bin .add (.var 0) (.cI 25))) (.cons (.mk "BadCounts" (.bin .add (.var 0) (.cI 26))) (.cons (.mk "BadCut" (.bin .add (.var 0) (.cI 27))) (.cons (.mk "BadEase" (.bin .add (.var 0) (.cI 28))) (.cons (.mk "BadPattern" (.bin .add (.var 0) (.cI 29))) (.cons (.mk "BadGroup" (.bin .add (.var 0) (.cI 30))) (.cons (.mk "BadTest" (.bin .add (.var 0) (.cI 31))) (.cons (.mk "BadVotes" (.bin .add (.var 0) (.cI 32))) (.cons (.mk "BadPupil" (.bin .add (.var 0) (.cI 33))) (.cons (.mk "BadRoom" (.bin .add (.var 0) (.cI 34))) (.cons (.mk "BadSign" (.bin .add (.var 0) (.cI 35))) (.cons (.mk "BadTop" (.bin .add (.var 0) (.cI 36))) (.cons (.mk "BadMemory" (.bin .add (.var 0) (.cI 37))) (.cons (.mk "BadDay" (.bin .add (.var 0) (.cI 38))) (.cons (.mk "BadBox" (.bin .add (.var 0) (.cI 39))) .nil))))))))))))))))))))))))))))))))))))))))))
.nil)
def f__law_made : Fn := ⟨1, 1, 0, b__law_made⟩
abbrev N__law_made : List Str := ["n"]
abbrev p__law_made : List Str := ["n"]
abbrev s__law_made : Stmt := top 51
def b_is_row : S :=
(.seq (.ret (.and (.cons (.cmp .eq (.bi .len (.cons (.var 1) .nil)) (.var 0)) (.cons (.bi .all (.cons (.lc (.or (.cons (.cmp .isn (.var 2) .cN) (.cons (.chn .le .le (.cI 0) (.var 2) (.cI 1)) .nil))) (.nm 2) (.itv (.var 1)) .none_ [2]) .nil)) .nil))))
.nil)
def f_is_row : Fn := ⟨2, 3, 0, b_is_row⟩
abbrev N_is_row : List Str := ["items", "row", "answer"]
abbrev p_is_row : List Str := ["items", "row"]
abbrev s_is_row : Stmt := top 45
def b_check_sheet : S :=
(.seq (.asg (.tp (.cons (.nm 1) (.cons (.nm 2) .nil))) (.var 0))
(.seq (.ife (.not (.chn .le .le (.cI 1) (.var 1) (.gI "MOST_ITEMS" (10))))
(.seq (.rse "OutOfRange" (.var 1))
.nil)
.nil)
(.seq (.ife (.cmp .gt (.bi .len (.cons (.var 2) .nil)) (.gI "MOST_PUPILS" (12)))
(.seq (.rse "TooMany" (.bi .len (.cons (.var 2) .nil)))
.nil)
.nil)
(.seq (.for_ (.tp (.cons (.nm 3) (.cons (.nm 4) .nil))) (.enm (.var 2))
(.seq (.ife (.not (.callS 2 (.cons (.var 1) (.cons (.var 4) .nil))))
(.seq (.rse "BadRow" (.var 3))
.nil)
.nil)
(.seq (.fgt [3, 4])
.nil)))
.nil))))
def f_check_sheet : Fn := ⟨1, 5, 0, b_check_sheet⟩
abbrev N_check_sheet : List Str := ["sheet", "items", "rows", "k", "row"]
abbrev p_check_sheet : List Str := ["sheet"]
abbrev s_check_sheet : Stmt := top 46
def b__law_raised : S :=
(.seq (.try_ (.seq (.expr (.callS 3 (.cons (.tup (.cons (.var 0) (.cons (.lst .nil) .nil))) .nil)))
.nil)
[("HallError", 1, .obj)])
(.seq (.ret .cN)
.nil))
def f__law_raised : Fn := ⟨1, 2, 0, b__law_raised⟩
abbrev N__law_raised : List Str := ["items", "e"]
abbrev p__law_raised : List Str := ["items"]
abbrev s__law_raised : Stmt := top 52
def b__law_mix : S :=
(.seq (.asg (.nm 3) (.cI 0))
(.seq (.frz 0 [3])
(.seq (.ife (.cmp .gt (.bi .len (.cons (.var 0) .nil)) (.cI 0))
(.seq (.asg (.nm 3) (.ix (.var 0) (.bin .mod (.bi .int (.cons (.var 1) .nil)) (.bi .len (.cons (.var 0) .nil)))))
(.seq (.frz 0 [3])
.nil))
.nil)
(.seq (.ife (.cmp .lt (.var 1) (.bi .len (.cons (.var 0) .nil)))
(.seq (.ret (.bin .mod (.bi .int (.cons (.var 3) .nil)) (.var 2)))
.nil)
.nil)
(.seq (.ret (.bin .mod (.bi .int (.cons (.bin .fdiv (.bi .int (.cons (.bin .add (.bin .mul (.var 3) (.cI 7919)) (.bin .mul (.var 1) (.cI 104729))) .nil)) (.cI 3)) .nil)) (.var 2)))
.nil)))))
def f__law_mix : Fn := ⟨3, 4, 0, b__law_mix⟩
abbrev N__law_mix : List Str := ["draws", "k", "many", "value"]
abbrev p__law_mix : List Str := ["draws", "k", "many"]
abbrev s__law_mix : Stmt := top 49
def b__law_kinds : S :=
(.seq (.ret (.lst (.cons (.isE "OutOfRange" ECS (.var 0)) (.cons (.isE "TooMany" ECS (.var 0)) (.cons (.isE "WrongSize" ECS (.var 0)) (.cons (.isE "BadRow" ECS (.var 0)) (.cons (.isE "NotFull" ECS (.var 0)) (.cons (.isE "BadFraction" ECS (.var 0)) (.cons (.isE "NotASet" ECS (.var 0)) (.cons (.isE "BadState" ECS (.var 0)) (.cons (.isE "BadEntailment" ECS (.var 0)) (.cons (.isE "BadPath" ECS (.var 0)) (.cons (.isE "BadLaw" ECS (.var 0)) (.cons (.isE "BadPrice" ECS (.var 0)) (.cons (.isE "BadNoise" ECS (.var 0)) (.cons (.isE "BadAnswer" ECS (.var 0)) (.cons (.isE "BadSum" ECS (.var 0)) (.cons (.isE "BadRating" ECS (.var 0)) (.cons (.isE "BadOffer" ECS (.var 0)) (.cons (.isE "BadLink" ECS (.var 0)) (.cons (.isE "BadItem" ECS (.var 0)) (.cons (.isE "BadEnemy" ECS (.var 0)) (.cons (.isE "BadPlan" ECS (.var 0)) (.cons (.isE "Unlike" ECS (.var 0)) (.cons (.isE "BadNeed" ECS (.var 0)) (.cons (.isE "BadSide" ECS (.var 0)) (.cons (.isE "BadForms" ECS (.var 0)) (.cons (.isE "BadBoundary" ECS (.var 0)) (.cons (.isE "BadCounts" ECS (.var 0)) (.cons (.isE "BadCut" ECS (.var 0)) (.cons (.isE "BadEase" ECS (.var 0)) (.cons (.isE "BadPattern" ECS (.var 0)) (.cons (.isE "BadGroup" ECS (.var 0)) (.cons (.isE "BadTest" ECS (.var 0)) (.cons (.isE "BadVotes" ECS (.var 0)) (.cons (.isE "BadPupil" ECS (.var 0)) (.cons (.isE "BadRoom" ECS (.var 0)) (.cons (.isE "BadSign" ECS (.var 0)) (.cons (.isE "BadTop" ECS (.var 0)) (.cons (.isE "BadMemory" ECS (.var 0)) (.cons (.isE "BadDay" ECS (.var 0)) (.cons (.isE "BadBox" ECS (.var 0)) .nil))))))))))))))))))))))))))))))))))))))))))
.nil)
def f__law_kinds : Fn := ⟨1, 1, 0, b__law_kinds⟩
abbrev N__law_kinds : List Str := ["e"]
abbrev p__law_kinds : List Str := ["e"]
abbrev s__law_kinds : Stmt := top 50
def b_law : S :=
(.seq (.asg (.nm 1) (.call 0 (.cons (.var 0) .nil)))
(.seq (.frz 0 [1])
(.seq (.asg (.nm 2) (.bin .sub (.callS 5 (.cons (.var 1) (.cons (.cI 0) (.cons (.cI 60000) .nil)))) (.cI 30000)))
(.seq (.frz 0 [2])
(.seq (.asg (.nm 3) (.call 1 (.cons (.var 2) .nil)))
(.seq (.frz 0 [3])
(.seq (.for_ (.nm 4) (.rng1 (.bi .len (.cons (.var 3) .nil)))
(.seq (.ife (.or (.cons (.not (.isE "HallError" ECS (.ix (.var 3) (.var 4)))) (.cons (.not (.isE "ValueError" ECS (.ix (.var 3) (.var 4)))) (.cons (.cmp .ne (.att ECS (.ix (.var 3) (.var 4))) (.bin .add (.var 2) (.var 4))) .nil))))
(.seq (.ret (.cB false))
.nil)
.nil)
(.seq (.ife (.cmp .ne (.call 6 (.cons (.ix (.var 3) (.var 4)) .nil)) (.lc (.cmp .eq (.var 8) (.var 4)) (.nm 8) (.rng1 (.bi .len (.cons (.var 3) .nil))) .none_ [8]))
(.seq (.ret (.cB false))
.nil)
.nil)
(.seq (.ife (.or (.cons (.isi "bool" (.att ECS (.ix (.var 3) (.var 4)))) (.cons (.not (.isi "int" (.att ECS (.ix (.var 3) (.var 4))))) .nil)))
(.seq (.ret (.cB false))
.nil)
.nil)
(.seq (.fgt [4])
.nil)))))
(.seq (.asg (.nm 5) (.mk "HallError" (.var 2)))
(.seq (.frz 0 [5])
(.seq (.ife (.or (.cons (.cmp .ne (.att ECS (.var 5)) (.var 2)) (.cons (.cmp .inn (.cB true) (.call 6 (.cons (.var 5) .nil))) (.cons (.not (.isE "ValueError" ECS (.var 5))) .nil))))
(.seq (.ret (.cB false))
.nil)
.nil)
(.seq (.asg (.nm 6) (.ix (.lst (.cons (.cI 0) (.cons (.cI 11) (.cons (.neg (.cI 1)) (.cons (.cI 99) .nil))))) (.callS 5 (.cons (.var 1) (.cons (.cI 1) (.cons (.cI 4) .nil))))))
(.seq (.frz 0 [6])
(.seq (.asg (.nm 7) (.call 4 (.cons (.var 6) .nil)))
(.seq (.frz 0 [7])
(.seq (.ret (.and (.cons (.cmp .isnn (.var 7) .cN) (.cons (.cmp .eq (.att ECS (.var 7)) (.var 6)) (.cons (.cmp .eq (.call 6 (.cons (.var 7) .nil)) (.lc (.cmp .eq (.var 8) (.cI 0)) (.nm 8) (.rng1 (.bi .len (.cons (.var 3) .nil))) .none_ [8])) .nil)))))
.nil)))))))))))))))
def f_law : Fn := ⟨1, 9, 0, b_law⟩
abbrev N_law : List Str := ["script", "draws", "number", "made", "k", "base", "items", "told", "t"]
abbrev p_law : List Str := ["script"]
abbrev s_law : Stmt := top 53
abbrev Fs : List Fn := [f__law_draws, f__law_made, f_is_row, f_check_sheet, f__law_raised, f__law_mix, f__law_kinds, f_law]
abbrev TX : Tx := { fn := [("_law_draws" : Str), ("_law_made" : Str), ("is_row" : Str), ("check_sheet" : Str), ("_law_raised" : Str), ("_law_mix" : Str), ("_law_kinds" : Str), ("law" : Str)], bl := [("ValueError" : Str), ("abs" : Str), ("all" : Str), ("bool" : Str), ("enumerate" : Str), ("int" : Str), ("isinstance" : Str), ("len" : Str), ("min" : Str), ("range" : Str)], gcd := false, gi := [("MOST_ITEMS", 10), ("MOST_PUPILS", 12)], cls := [("BadAnswer" : Str), ("BadBoundary" : Str), ("BadBox" : Str), ("BadCounts" : Str), ("BadCut" : Str), ("BadDay" : Str), ("BadEase" : Str), ("BadEnemy" : Str), ("BadEntailment" : Str), ("BadForms" : Str), ("BadFraction" : Str), ("BadGroup" : Str), ("BadItem" : Str), ("BadLaw" : Str), ("BadLink" : Str), ("BadMemory" : Str), ("BadNeed" : Str), ("BadNoise" : Str), ("BadOffer" : Str), ("BadPath" : Str), ("BadPattern" : Str), ("BadPlan" : Str), ("BadPrice" : Str), ("BadPupil" : Str), ("BadRating" : Str), ("BadRoom" : Str), ("BadRow" : Str), ("BadSide" : Str), ("BadSign" : Str), ("BadState" : Str), ("BadSum" : Str), ("BadTest" : Str), ("BadTop" : Str), ("BadVotes" : Str), ("HallError" : Str), ("NotASet" : Str), ("NotFull" : Str), ("OutOfRange" : Str), ("TooMany" : Str), ("Unlike" : Str), ("WrongSize" : Str)], eo := true }
theorem ok__law_draws : DefOk TX (rdsOf Fs) s__law_draws N__law_draws p__law_draws f__law_draws := ⟨⟨rfl, rfl, rfl, by decide +kernel, rfl, by decide +kernel, by decide +kernel⟩, rfl, rfl, by decide, by decide +kernel, by decide +kernel⟩
theorem ok__law_made : DefOk TX (rdsOf Fs) s__law_made N__law_made p__law_made f__law_made := ⟨⟨rfl, rfl, rfl, by decide +kernel, rfl, by decide +kernel, by decide +kernel⟩, rfl, rfl, by decide, by decide +kernel, by decide +kernel⟩
theorem ok_is_row : DefOk TX (rdsOf Fs) s_is_row N_is_row p_is_row f_is_row := ⟨⟨rfl, rfl, rfl, by decide +kernel, rfl, by decide +kernel, by decide +kernel⟩, rfl, rfl, by decide, by decide +kernel, by decide +kernel⟩
theorem ok_check_sheet : DefOk TX (rdsOf Fs) s_check_sheet N_check_sheet p_check_sheet f_check_sheet := ⟨⟨rfl, rfl, rfl, by decide +kernel, rfl, by decide +kernel, by decide +kernel⟩, rfl, rfl, by decide, by decide +kernel, by decide +kernel⟩
theorem ok__law_raised : DefOk TX (rdsOf Fs) s__law_raised N__law_raised p__law_raised f__law_raised := ⟨⟨rfl, rfl, rfl, by decide +kernel, rfl, by decide +kernel, by decide +kernel⟩, rfl, rfl, by decide, by decide +kernel, by decide +kernel⟩
theorem ok__law_mix : DefOk TX (rdsOf Fs) s__law_mix N__law_mix p__law_mix f__law_mix := ⟨⟨rfl, rfl, rfl, by decide +kernel, rfl, by decide +kernel, by decide +kernel⟩, rfl, rfl, by decide, by decide +kernel, by decide +kernel⟩
theorem ok__law_kinds : DefOk TX (rdsOf Fs) s__law_kinds N__law_kinds p__law_kinds f__law_kinds := ⟨⟨rfl, rfl, rfl, by decide +kernel, rfl, by decide +kernel, by decide +kernel⟩, rfl, rfl, by decide, by decide +kernel, by decide +kernel⟩
theorem ok_law : DefOk TX (rdsOf Fs) s_law N_law p_law f_law := ⟨⟨rfl, rfl, rfl, by decide +kernel, rfl, by decide +kernel, by decide +kernel⟩, rfl, rfl, by decide, by decide +kernel, by decide +kernel⟩
end K00
set_option Elab.async false
set_option linter.all false
set_option maxRecDepth 100000
namespace K00
open PySem DL DT TT
abbrev ecs : List Str := [("BadAnswer" : Str), ("BadBoundary" : Str), ("BadBox" : Str), ("BadCounts" : Str), ("BadCut" : Str), ("BadDay" : Str), ("BadEase" : Str), ("BadEnemy" : Str), ("BadEntailment" : Str), ("BadForms" : Str), ("BadFraction" : Str), ("BadGroup" : Str), ("BadItem" : Str), ("BadLaw" : Str), ("BadLink" : Str), ("BadMemory" : Str), ("BadNeed" : Str), ("BadNoise" : Str), ("BadOffer" : Str), ("BadPath" : Str), ("BadPattern" : Str), ("BadPlan" : Str), ("BadPrice" : Str), ("BadPupil" : Str), ("BadRating" : Str), ("BadRoom" : Str), ("BadRow" : Str), ("BadSide" : Str), ("BadSign" : Str), ("BadState" : Str), ("BadSum" : Str), ("BadTest" : Str), ("BadTop" : Str), ("BadVotes" : Str), ("HallError" : Str), ("NotASet" : Str), ("NotFull" : Str), ("OutOfRange" : Str), ("TooMany" : Str), ("Unlike" : Str), ("WrongSize" : Str)]
@[irreducible] def t_law_made (n_ : Int) : R (List Err) :=
  R.ok [(Err.mk (("OutOfRange" : String) : Str) (n_ + 0)), (Err.mk (("TooMany" : String) : Str) (n_ + 1)), (Err.mk (("WrongSize" : String) : Str) (n_ + 2)), (Err.mk (("BadRow" : String) : Str) (n_ + 3)), (Err.mk (("NotFull" : String) : Str) (n_ + 4)), (Err.mk (("BadFraction" : String) : Str) (n_ + 5)), (Err.mk (("NotASet" : String) : Str) (n_ + 6)), (Err.mk (("BadState" : String) : Str) (n_ + 7)), (Err.mk (("BadEntailment" : String) : Str) (n_ + 8)), (Err.mk (("BadPath" : String) : Str) (n_ + 9)), (Err.mk (("BadLaw" : String) : Str) (n_ + 10)), (Err.mk (("BadPrice" : String) : Str) (n_ + 11)), (Err.mk (("BadNoise" : String) : Str) (n_ + 12)), (Err.mk (("BadAnswer" : String) : Str) (n_ + 13)), (Err.mk (("BadSum" : String) : Str) (n_ + 14)), (Err.mk (("BadRating" : String) : Str) (n_ + 15)), (Err.mk (("BadOffer" : String) : Str) (n_ + 16)), (Err.mk (("BadLink" : String) : Str) (n_ + 17)), (Err.mk (("BadItem" : String) : Str) (n_ + 18)), (Err.mk (("BadEnemy" : String) : Str) (n_ + 19)), (Err.mk (("BadPlan" : String) : Str) (n_ + 20)), (Err.mk (("Unlike" : String) : Str) (n_ + 21)), (Err.mk (("BadNeed" : String) : Str) (n_ + 22)), (Err.mk (("BadSide" : String) : Str) (n_ + 23)), (Err.mk (("BadForms" : String) : Str) (n_ + 24)), (Err.mk (("BadBoundary" : String) : Str) (n_ + 25)), (Err.mk (("BadCounts" : String) : Str) (n_ + 26)), (Err.mk (("BadCut" : String) : Str) (n_ + 27)), (Err.mk (("BadEase" : String) : Str) (n_ + 28)), (Err.mk (("BadPattern" : String) : Str) (n_ + 29)), (Err.mk (("BadGroup" : String) : Str) (n_ + 30)), (Err.mk (("BadTest" : String) : Str) (n_ + 31)), (Err.mk (("BadVotes" : String) : Str) (n_ + 32)), (Err.mk (("BadPupil" : String) : Str) (n_ + 33)), (Err.mk (("BadRoom" : String) : Str) (n_ + 34)), (Err.mk (("BadSign" : String) : Str) (n_ + 35)), (Err.mk (("BadTop" : String) : Str) (n_ + 36)), (Err.mk (("BadMemory" : String) : Str) (n_ + 37)), (Err.mk (("BadDay" : String) : Str) (n_ + 38)), (Err.mk (("BadBox" : String) : Str) (n_ + 39))]
@[irreducible] def t_is_row (items : Int) (row : List (Option Int)) : R Bool :=
  if decide ((row.length : Int) = items) then ((R.ok row).bind fun xs2 => lcR xs2 (fun _ => R.ok true) (fun answer : Option Int => if answer.isNone then R.ok true else (theR answer).bind fun v1 => R.ok ((decide (0 ≤ v1)) && (decide (v1 ≤ 1))))).bind fun v3 => R.ok (v3.all id) else R.ok false
@[irreducible] def t_check_sheet (sheet : Int × (List (List (Option Int)))) : R Unit :=
  (R.ok sheet : R (Int × (List (List (Option Int))))).bind fun p1 =>
  if !((decide (1 ≤ p1.1)) && (decide (p1.1 ≤ 10))) then
  (R.ok p1.1 : R Int).bind fun v2 => R.exc "OutOfRange" (enc v2)
  else
  if decide (12 < (p1.2.length : Int)) then
  (R.ok (p1.2.length : Int) : R Int).bind fun v3 => R.exc "TooMany" (enc v3)
  else
  (R.ok (enumI 0 p1.2) : R (List (Int × (List (Option Int))))).bind fun xs7 => (forP xs7 () (fun (p4 : Int × (List (Option Int))) (_s : Unit) =>
  ((t_is_row p1.1 p4.2).bind fun v5 => R.ok (!v5)).bind fun b => if b then
  (R.ok p4.1 : R Int).bind fun v6 => R.exc "BadRow" (enc v6)
  else
  R.ok ())).bind fun _s =>
  R.ok ()
@[irreducible] def t_law_raised (items : Int) : R (Option Err) :=
  tryR ((t_check_sheet (items, ([] : List (List (Option Int))))).bind fun _ =>
  R.ok () : R Unit) (fun _ =>
  R.ok (none : Option Err)) (fun c i => if exm "HallError" c then (intOf i).bind fun n => (fun p : Err => R.ok (some p)) (Err.mk c n) else R.exc c i)
@[irreducible] def t_law_kinds (e : Err) : R (List Bool) :=
  (isER (("OutOfRange" : String) : Str) ecs e).bind fun v1 => (isER (("TooMany" : String) : Str) ecs e).bind fun v2 => (isER (("WrongSize" : String) : Str) ecs e).bind fun v3 => (isER (("BadRow" : String) : Str) ecs e).bind fun v4 => (isER (("NotFull" : String) : Str) ecs e).bind fun v5 => (isER (("BadFraction" : String) : Str) ecs e).bind fun v6 => (isER (("NotASet" : String) : Str) ecs e).bind fun v7 => (isER (("BadState" : String) : Str) ecs e).bind fun v8 => (isER (("BadEntailment" : String) : Str) ecs e).bind fun v9 => (isER (("BadPath" : String) : Str) ecs e).bind fun v10 => (isER (("BadLaw" : String) : Str) ecs e).bind fun v11 => (isER (("BadPrice" : String) : Str) ecs e).bind fun v12 => (isER (("BadNoise" : String) : Str) ecs e).bind fun v13 => (isER (("BadAnswer" : String) : Str) ecs e).bind fun v14 => (isER (("BadSum" : String) : Str) ecs e).bind fun v15 => (isER (("BadRating" : String) : Str) ecs e).bind fun v16 => (isER (("BadOffer" : String) : Str) ecs e).bind fun v17 => (isER (("BadLink" : String) : Str) ecs e).bind fun v18 => (isER (("BadItem" : String) : Str) ecs e).bind fun v19 => (isER (("BadEnemy" : String) : Str) ecs e).bind fun v20 => (isER (("BadPlan" : String) : Str) ecs e).bind fun v21 => (isER (("Unlike" : String) : Str) ecs e).bind fun v22 => (isER (("BadNeed" : String) : Str) ecs e).bind fun v23 => (isER (("BadSide" : String) : Str) ecs e).bind fun v24 => (isER (("BadForms" : String) : Str) ecs e).bind fun v25 => (isER (("BadBoundary" : String) : Str) ecs e).bind fun v26 => (isER (("BadCounts" : String) : Str) ecs e).bind fun v27 => (isER (("BadCut" : String) : Str) ecs e).bind fun v28 => (isER (("BadEase" : String) : Str) ecs e).bind fun v29 => (isER (("BadPattern" : String) : Str) ecs e).bind fun v30 => (isER (("BadGroup" : String) : Str) ecs e).bind fun v31 => (isER (("BadTest" : String) : Str) ecs e).bind fun v32 => (isER (("BadVotes" : String) : Str) ecs e).bind fun v33 => (isER (("BadPupil" : String) : Str) ecs e).bind fun v34 => (isER (("BadRoom" : String) : Str) ecs e).bind fun v35 => (isER (("BadSign" : String) : Str) ecs e).bind fun v36 => (isER (("BadTop" : String) : Str) ecs e).bind fun v37 => (isER (("BadMemory" : String) : Str) ecs e).bind fun v38 => (isER (("BadDay" : String) : Str) ecs e).bind fun v39 => (isER (("BadBox" : String) : Str) ecs e).bind fun v40 => R.ok [v1, v2, v3, v4, v5, v6, v7, v8, v9, v10, v11, v12, v13, v14, v15, v16, v17, v18, v19, v20, v21, v22, v23, v24, v25, v26, v27, v28, v29, v30, v31, v32, v33, v34, v35, v36, v37, v38, v39, v40]
@[irreducible] def t_law (script : Script) : R Bool :=
  (t_law_draws script).bind fun draws =>
  ((t_law_mix draws 0 60000).bind fun v1 => R.ok (v1 - 30000)).bind fun number =>
  (t_law_made number).bind fun made =>
  (rng1R (made.length : Int)).bind fun xs35 => (forC (β := Bool) xs35 () (fun (k : Int) (_s : Unit) =>
  ((((ixR made k).bind fun v2 => isER (("HallError" : String) : Str) ecs v2).bind fun v3 => R.ok (!v3)).bind fun v9 => if v9 then R.ok true else (((ixR made k).bind fun v4 => isER (("ValueError" : String) : Str) ecs v4).bind fun v5 => R.ok (!v5)).bind fun v8 => if v8 then R.ok true else ((ixR made k).bind fun v6 => attR ecs v6).bind fun v7 => R.ok (!decide (v7 = number + k))).bind fun b => if b then
  R.ok (Ctl.ret false)
  else
  (((ixR made k).bind fun v10 => t_law_kinds v10).bind fun v12 => ((rng1R (made.length : Int)).bind fun xs11 => R.ok (xs11.map (fun t : Int => decide (t = k)))).bind fun v13 => R.ok (!decide (v12 = v13))).bind fun b => if b then
  R.ok (Ctl.ret false)
  else
  ((((ixR made k).bind fun v15 => attR ecs v15).bind fun v16 => R.ok false).bind fun v21 => if v21 then R.ok true else (((ixR made k).bind fun v18 => attR ecs v18).bind fun v19 => R.ok true).bind fun v20 => R.ok (!v20)).bind fun b => if b then
  R.ok (Ctl.ret false)
  else
  R.ok (Ctl.nx ()))).bind fun c => c.go (fun _s =>
  (R.ok (Err.mk (("HallError" : String) : Str) number) : R Err).bind fun base =>
  (((attR ecs base).bind fun v22 => R.ok (!decide (v22 = number))).bind fun v26 => if v26 then R.ok true else ((t_law_kinds base).bind fun v23 => R.ok (decide (true ∈ v23))).bind fun v25 => if v25 then R.ok true else (isER (("ValueError" : String) : Str) ecs base).bind fun v24 => R.ok (!v24)).bind fun b => if b then
  R.ok false
  else
  ((t_law_mix draws 1 4).bind fun v27 => ixR [0, 11, -1, 99] v27).bind fun items =>
  (t_law_raised items).bind fun told =>
  if told.isSome then (((theR told).bind fun v28 => attR ecs v28).bind fun v29 => R.ok (decide (v29 = items))).bind fun v34 => if v34 then ((theR told).bind fun v30 => t_law_kinds v30).bind fun v32 => ((rng1R (made.length : Int)).bind fun xs31 => R.ok (xs31.map (fun t : Int => decide (t = 0)))).bind fun v33 => R.ok (decide (v32 = v33)) else R.ok false else R.ok false) R.ok
end K00
set_option Elab.async false
set_option linter.all false
set_option maxRecDepth 100000
set_option maxHeartbeats 1000000
namespace K00
open PySem PySem.Spec PyProof.Rows L2 DL DT TT
theorem sim__law_draws (n : Nat) (hn : 1 ≤ n) (script : Script) : Sim (DL.run Fs n 0 [enc script]) (t_law_draws script) := by
  obtain ⟨n, rfl⟩ : ∃ m, n = m + 1 := ⟨n - 1, by omega⟩
  refine sim_def (F := f__law_draws) rfl rfl ?_
  unfold t_law_draws
  dsimp only [f__law_draws, b__law_draws, List.map_cons, List.map_nil, List.replicate, List.cons_append, List.nil_append, Nat.reduceSub]
  refine w_asg (sim_lst (arg_nil op_l0)) (fun draws => ?_)
  try dsimp only [wipeD, List.set_cons_succ, List.set_cons_zero]
  refine w_frz ?_
  refine w_for (fun draws : List Int => [some (enc (script : Script)), some (enc (draws : List Int)), none, none, none, none]) draws rfl (it_rng1 (iv_p (sim_bi (arg_p (sim_cI _) (arg_p (sim_bi (arg_p (sim_var rfl) (arg_nil (bi_lenS _)))) (arg_nil (bi_min2 _ _))))) (io_rng1 _))) (fun k draws => ⟨_, rfl, ?_⟩) (fun draws => ?_)
  · try dsimp only [wipeD, List.set_cons_succ, List.set_cons_zero]
    refine w_asg (sim_bi (arg_m (sim_ix (ev_p (sim_var rfl) (ev_p (sim_var rfl) (op_ixS _ _)))) fun v1 => (arg_nil (bi_abs _)))) (fun rest => ?_)
    try dsimp only [wipeD, List.set_cons_succ, List.set_cons_zero]
    refine w_frz ?_
    refine w_ifp (ts_b (sim_cmp (ev_p (sim_var rfl) (ev_p (sim_bin (ev_p (sim_cI _) (ev_p (sim_cI _) (op_powl _ _ (by decide +kernel))))) (op_ge _ _))))) ?_ ?_
    · try dsimp only [wipeD, List.set_cons_succ, List.set_cons_zero]
      refine w_fgt ?_
      try dsimp only [wipeD, List.set_cons_succ, List.set_cons_zero]
      refine w_for (fun s2 : ((List Int) × Int) => [some (enc (script : Script)), some (enc (s2.1 : List Int)), some (enc (k : Int)), some (enc (s2.2 : Int)), none, none]) (draws, rest) rfl (it_rng1 (iv_p (sim_cI _) (io_rng1 _))) (fun turn s2 => ⟨_, rfl, ?_⟩) (fun s2 => ?_)
      · try dsimp only [wipeD, List.set_cons_succ, List.set_cons_zero]
        refine w_ifp (ts_b (sim_cmp (ev_p (sim_var rfl) (ev_p (sim_cI _) (op_gt _ _))))) ?_ ?_
        · try dsimp only [wipeD, List.set_cons_succ, List.set_cons_zero]
          refine w_app (xs := s2.1) rfl (sim_bin (ev_p (sim_bi (arg_p (sim_var rfl) (arg_nil (bi_int _)))) (ev_p (sim_cI _) (op_modl _ _ (by decide +kernel))))) (fun draws => ?_)
          try dsimp only [wipeD, List.set_cons_succ, List.set_cons_zero]
          refine w_asg (sim_bin (ev_p (sim_var rfl) (ev_p (sim_cI _) (op_fdivl _ _ (by decide +kernel))))) (fun rest => ?_)
          try dsimp only [wipeD, List.set_cons_succ, List.set_cons_zero]
          refine w_frz ?_
          refine w_nil ?_
          try dsimp only [wipeD, List.set_cons_succ, List.set_cons_zero]
          refine w_fgt ?_
          try dsimp only [wipeD, List.set_cons_succ, List.set_cons_zero]
          refine w_nil ?_
          exact Or.inl rfl
        · try dsimp only [wipeD, List.set_cons_succ, List.set_cons_zero]
          refine w_nil ?_
          try dsimp only [wipeD, List.set_cons_succ, List.set_cons_zero]
          refine w_fgt ?_
          try dsimp only [wipeD, List.set_cons_succ, List.set_cons_zero]
          refine w_nil ?_
          exact Or.inl rfl
      · try dsimp only [wipeD, List.set_cons_succ, List.set_cons_zero]
        refine w_fgt ?_
        try dsimp only [wipeD, List.set_cons_succ, List.set_cons_zero]
        refine w_nil ?_
        try dsimp only [wipeD, List.set_cons_succ, List.set_cons_zero]
        refine w_fgt ?_
        try dsimp only [wipeD, List.set_cons_succ, List.set_cons_zero]
        refine w_nil ?_
        exact Or.inl rfl
    · try dsimp only [wipeD, List.set_cons_succ, List.set_cons_zero]
      refine w_asg (sim_bin (ev_m (sim_bi (arg_m (sim_bin (ev_m (sim_bin (ev_p (sim_var rfl) (ev_p (sim_cI _) (op_mul _ _)))) fun v5 => (ev_m (sim_bin (ev_p (sim_bin (ev_p (sim_var rfl) (ev_p (sim_cI _) (op_add _ _)))) (ev_p (sim_cI _) (op_mul _ _)))) fun v6 => (op_add _ _)))) fun v7 => (arg_nil (bi_int _)))) fun v8 => (ev_p (sim_cI _) (op_modl _ _ (by decide +kernel))))) (fun mixed => ?_)
      try dsimp only [wipeD, List.set_cons_succ, List.set_cons_zero]
      refine w_frz ?_
      refine w_asg (sim_bin (ev_m (sim_bi (arg_m (sim_bin (ev_m (sim_bin (ev_m (sim_bin (ev_p (sim_var rfl) (ev_p (sim_cI _) (op_mul _ _)))) fun v9 => (ev_m (sim_bin (ev_p (sim_cI _) (ev_p (sim_var rfl) (op_mul _ _)))) fun v10 => (op_add _ _)))) fun v11 => (ev_p (sim_cI _) (op_add _ _)))) fun v12 => (arg_nil (bi_int _)))) fun v13 => (ev_p (sim_cI _) (op_modl _ _ (by decide +kernel))))) (fun mixed => ?_)
      try dsimp only [wipeD, List.set_cons_succ, List.set_cons_zero]
      refine w_frz ?_
      refine w_app (xs := draws) rfl (sim_bin (ev_p (sim_bi (arg_p (sim_var rfl) (arg_nil (bi_int _)))) (ev_p (sim_cI _) (op_modl _ _ (by decide +kernel))))) (fun draws => ?_)
      try dsimp only [wipeD, List.set_cons_succ, List.set_cons_zero]
      refine w_app (xs := draws) rfl (sim_bin (ev_p (sim_bi (arg_p (sim_bin (ev_p (sim_var rfl) (ev_p (sim_cI _) (op_fdivl _ _ (by decide +kernel))))) (arg_nil (bi_int _)))) (ev_p (sim_cI _) (op_modl _ _ (by decide +kernel))))) (fun draws => ?_)
      try dsimp only [wipeD, List.set_cons_succ, List.set_cons_zero]
      refine w_fgt ?_
      try dsimp only [wipeD, List.set_cons_succ, List.set_cons_zero]
      refine w_nil ?_
      try dsimp only [wipeD, List.set_cons_succ, List.set_cons_zero]
      refine w_fgt ?_
      try dsimp only [wipeD, List.set_cons_succ, List.set_cons_zero]
      refine w_nil ?_
      exact Or.inl rfl
  · try dsimp only [wipeD, List.set_cons_succ, List.set_cons_zero]
    refine w_frz ?_
    exact w_retv (sim_var rfl) (fun a => Or.inl rfl)
theorem sim__law_made (n : Nat) (hn : 1 ≤ n) (n_ : Int) : Sim (DL.run Fs n 1 [enc n_]) (t_law_made n_) := by
  obtain ⟨n, rfl⟩ : ∃ m, n = m + 1 := ⟨n - 1, by omega⟩
  refine sim_def (F := f__law_made) rfl rfl ?_
  unfold t_law_made
  dsimp only [f__law_made, b__law_made, List.map_cons, List.map_nil, List.replicate, List.cons_append, List.nil_append, Nat.reduceSub]
  exact w_retv (sim_lst (arg_p (sim_mk (ev_p (sim_bin (ev_p (sim_var rfl) (ev_p (sim_cI _) (op_add _ _)))) (op_mk _ _))) (arg_p (sim_mk (ev_p (sim_bin (ev_p (sim_var rfl) (ev_p (sim_cI _) (op_add _ _)))) (op_mk _ _))) (arg_p (sim_mk (ev_p (sim_bin (ev_p (sim_var rfl) (ev_p (sim_cI _) (op_add _ _)))) (op_mk _ _))) (arg_p (sim_mk (ev_p (sim_bin (ev_p (sim_var rfl) (ev_p (sim_cI _) (op_add _ _)))) (op_mk _ _))) (arg_p (sim_mk (ev_p (sim_bin (ev_p (sim_var rfl) (ev_p (sim_cI _) (op_add _ _)))) (op_mk _ _))) (arg_p (sim_mk (ev_p (sim_bin (ev_p (sim_var rfl) (ev_p (sim_cI _) (op_add _ _)))) (op_mk _ _))) (arg_p (sim_mk (ev_p (sim_bin (ev_p (sim_var rfl) (ev_p (sim_cI _) (op_add _ _)))) (op_mk _ _))) (arg_p (sim_mk (ev_p (sim_bin (ev_p (sim_var rfl) (ev_p (sim_cI _) (op_add _ _)))) (op_mk _ _))) (arg_p (sim_mk (ev_p (sim_bin (ev_p (sim_var rfl) (ev_p (sim_cI _) (op_add _ _)))) (op_mk _ _))) (arg_p (sim_mk (ev_p (sim_bin (ev_p (sim_var rfl) (ev_p (sim_cI _) (op_add _ _)))) (op_mk _ _))) (arg_p (sim_mk (ev_p (sim_bin (ev_p (sim_var rfl) (ev_p (sim_cI _) (op_add _ _)))) (op_mk _ _))) (arg_p (sim_mk (ev_p (sim_bin (ev_p (sim_var rfl) (ev_p (sim_cI _) (op_add _ _)))) (op_mk _ _))) (arg_p (sim_mk (ev_p (sim_bin (ev_p (sim_var rfl) (ev_p (sim_cI _) (op_add _ _)))) (op_mk _ _))) (arg_p (sim_mk (ev_p (sim_bin (ev_p (sim_var rfl) (ev_p (sim_cI _) (op_add _ _)))) (op_mk _ _))) (arg_p (sim_mk (ev_p (sim_bin (ev_p (sim_var rfl) (ev_p (sim_cI _) (op_add _ _)))) (op_mk _ _))) (arg_p (sim_mk (ev_p (sim_bin (ev_p (sim_var rfl) (ev_p (sim_cI _) (op_add _ _)))) (op_mk _ _))) (arg_p (sim_mk (ev_p (sim_bin (ev_p (sim_var rfl) (ev_p (sim_cI _) (op_add _ _)))) (op_mk _ _))) (arg_p (sim_mk (ev_p (sim_bin (ev_p (sim_var rfl) (ev_p (sim_cI _) (op_add _ _)))) (op_mk _ _))) (arg_p (sim_mk (ev_p (sim_bin (ev_p (sim_var rfl) (ev_p (sim_cI _) (op_add _ _)))) (op_mk _ _))) (arg_p (sim_mk (ev_p (sim_bin (ev_p (sim_var rfl) (ev_p (sim_cI _) (op_add _ _)))) (op_mk _ _))) (arg_p (sim_mk (ev_p (sim_bin (ev_p (sim_var rfl) (ev_p (sim_cI _) (op_add _ _)))) (op_mk _ _))) (arg_p (sim_mk (ev_p (sim_bin (ev_p (sim_var rfl) (ev_p (sim_cI _) (op_add _ _)))) (op_mk _ _))) (arg_p (sim_mk (ev_p (sim_bin (ev_p (sim_var rfl) (ev_p (sim_cI _) (op_add _ _)))) (op_mk _ _))) (arg_p (sim_mk (ev_p (sim_bin (ev_p (sim_var rfl) (ev_p (sim_cI _) (op_add _ _)))) (op_mk _ _))) (arg_p (sim_mk (ev_p (sim_bin (ev_p (sim_var rfl) (ev_p (sim_cI _) (op_add _ _)))) (op_mk _ _))) (arg_p (sim_mk (ev_p (sim_bin (ev_p (sim_var rfl) (ev_p (sim_cI _) (op_add _ _)))) (op_mk _ _))) (arg_p (sim_mk (ev_p (sim_bin (ev_p (sim_var rfl) (ev_p (sim_cI _) (op_add _ _)))) (op_mk _ _))) (arg_p (sim_mk (ev_p (sim_bin (ev_p (sim_var rfl) (ev_p (sim_cI _) (op_add _ _)))) (op_mk _ _))) (arg_p (sim_mk (ev_p (sim_bin (ev_p (sim_var rfl) (ev_p (sim_cI _) (op_add _ _)))) (op_mk _ _))) (arg_p (sim_mk (ev_p (sim_bin (ev_p (sim_var rfl) (ev_p (sim_cI _) (op_add _ _)))) (op_mk _ _))) (arg_p (sim_mk (ev_p (sim_bin (ev_p (sim_var rfl) (ev_p (sim_cI _) (op_add _ _)))) (op_mk _ _))) (arg_p (sim_mk (ev_p (sim_bin (ev_p (sim_var rfl) (ev_p (sim_cI _) (op_add _ _)))) (op_mk _ _))) (arg_p (sim_mk (ev_p (sim_bin (ev_p (sim_var rfl) (ev_p (sim_cI _) (op_add _ _)))) (op_mk _ _))) (arg_p (sim_mk (ev_p (sim_bin (ev_p (sim_var rfl) (ev_p (sim_cI _) (op_add _ _)))) (op_mk _ _))) (arg_p (sim_mk (ev_p (sim_bin (ev_p (sim_var rfl) (ev_p (sim_cI _) (op_add _ _)))) (op_mk _ _))) (arg_p (sim_mk (ev_p (sim_bin (ev_p (sim_var rfl) (ev_p (sim_cI _) (op_add _ _)))) (op_mk _ _))) (arg_p (sim_mk (ev_p (sim_bin (ev_p (sim_var rfl) (ev_p (sim_cI _) (op_add _ _)))) (op_mk _ _))) (arg_p (sim_mk (ev_p (sim_bin (ev_p (sim_var rfl) (ev_p (sim_cI _) (op_add _ _)))) (op_mk _ _))) (arg_p (sim_mk (ev_p (sim_bin (ev_p (sim_var rfl) (ev_p (sim_cI _) (op_add _ _)))) (op_mk _ _))) (arg_p (sim_mk (ev_p (sim_bin (ev_p (sim_var rfl) (ev_p (sim_cI _) (op_add _ _)))) (op_mk _ _))) (arg_nil (op_ln (as := ([(Err.mk (("OutOfRange" : String) : Str) (n_ + 0)), (Err.mk (("TooMany" : String) : Str) (n_ + 1)), (Err.mk (("WrongSize" : String) : Str) (n_ + 2)), (Err.mk (("BadRow" : String) : Str) (n_ + 3)), (Err.mk (("NotFull" : String) : Str) (n_ + 4)), (Err.mk (("BadFraction" : String) : Str) (n_ + 5)), (Err.mk (("NotASet" : String) : Str) (n_ + 6)), (Err.mk (("BadState" : String) : Str) (n_ + 7)), (Err.mk (("BadEntailment" : String) : Str) (n_ + 8)), (Err.mk (("BadPath" : String) : Str) (n_ + 9)), (Err.mk (("BadLaw" : String) : Str) (n_ + 10)), (Err.mk (("BadPrice" : String) : Str) (n_ + 11)), (Err.mk (("BadNoise" : String) : Str) (n_ + 12)), (Err.mk (("BadAnswer" : String) : Str) (n_ + 13)), (Err.mk (("BadSum" : String) : Str) (n_ + 14)), (Err.mk (("BadRating" : String) : Str) (n_ + 15)), (Err.mk (("BadOffer" : String) : Str) (n_ + 16)), (Err.mk (("BadLink" : String) : Str) (n_ + 17)), (Err.mk (("BadItem" : String) : Str) (n_ + 18)), (Err.mk (("BadEnemy" : String) : Str) (n_ + 19)), (Err.mk (("BadPlan" : String) : Str) (n_ + 20)), (Err.mk (("Unlike" : String) : Str) (n_ + 21)), (Err.mk (("BadNeed" : String) : Str) (n_ + 22)), (Err.mk (("BadSide" : String) : Str) (n_ + 23)), (Err.mk (("BadForms" : String) : Str) (n_ + 24)), (Err.mk (("BadBoundary" : String) : Str) (n_ + 25)), (Err.mk (("BadCounts" : String) : Str) (n_ + 26)), (Err.mk (("BadCut" : String) : Str) (n_ + 27)), (Err.mk (("BadEase" : String) : Str) (n_ + 28)), (Err.mk (("BadPattern" : String) : Str) (n_ + 29)), (Err.mk (("BadGroup" : String) : Str) (n_ + 30)), (Err.mk (("BadTest" : String) : Str) (n_ + 31)), (Err.mk (("BadVotes" : String) : Str) (n_ + 32)), (Err.mk (("BadPupil" : String) : Str) (n_ + 33)), (Err.mk (("BadRoom" : String) : Str) (n_ + 34)), (Err.mk (("BadSign" : String) : Str) (n_ + 35)), (Err.mk (("BadTop" : String) : Str) (n_ + 36)), (Err.mk (("BadMemory" : String) : Str) (n_ + 37)), (Err.mk (("BadDay" : String) : Str) (n_ + 38)), (Err.mk (("BadBox" : String) : Str) (n_ + 39))] : List Err)) rfl (Nat.le_of_ble_eq_true rfl)))))))))))))))))))))))))))))))))))))))))))) (fun a => Or.inl rfl)
theorem sim_is_row (n : Nat) (hn : 1 ≤ n) (items : Int) (row : List (Option Int)) : Sim (DL.run Fs n 2 [enc items, enc row]) (t_is_row items row) := by
  obtain ⟨n, rfl⟩ : ∃ m, n = m + 1 := ⟨n - 1, by omega⟩
  refine sim_def (F := f_is_row) rfl rfl ?_
  unfold t_is_row
  dsimp only [f_is_row, b_is_row, List.map_cons, List.map_nil, List.replicate, List.cons_append, List.nil_append, Nat.reduceSub]
  exact w_retv (sim_and (and_pm (sim_cmp (ev_p (sim_bi (arg_p (sim_var rfl) (arg_nil (bi_len _)))) (ev_p (sim_var rfl) (op_eq (by decide) _ _)))) (and_1 (sim_bi (arg_m (sim_lc0 (it_itv (iv_p (sim_var rfl) (io_itv _))) (fun answer => ⟨_, rfl, (sim_or (or_pm (sim_cmp (ev_p (sim_var rfl) (ev_p sim_cN (op_isn _ fun a => (NotNone.nn a .none).2.2)))) (or_1 (sim_chn (ev_p (sim_cI _) (ev_m (sim_the (sim_var rfl)) fun v1 => (chn_p (op_le _ _) (ev_p (sim_cI _) (op_le _ _)))))))))⟩)) fun v3 => (arg_nil (bi_all _))))))) (fun a => Or.inl rfl)
theorem sim_check_sheet (n : Nat) (hn : 2 ≤ n) (sheet : Int × (List (List (Option Int)))) : Sim (DL.run Fs n 3 [enc sheet]) (t_check_sheet sheet) := by
  obtain ⟨n, rfl⟩ : ∃ m, n = m + 1 := ⟨n - 1, by omega⟩
  refine sim_def (F := f_check_sheet) rfl rfl ?_
  unfold t_check_sheet
  dsimp only [f_check_sheet, b_check_sheet, List.map_cons, List.map_nil, List.replicate, List.cons_append, List.nil_append, Nat.reduceSub]
  refine w_tup (sim_var rfl) (fun p1 => ⟨_, rfl, ?_⟩)
  try dsimp only [wipeD, List.set_cons_succ, List.set_cons_zero]
  refine w_ifp (ts_b (sim_not (ev_p (sim_chn (ev_p (sim_cI _) (ev_p (sim_var rfl) (chn_p (op_le _ _) (ev_p (sim_gI _ _) (op_le _ _)))))) (op_not _)))) ?_ ?_
  · try dsimp only [wipeD, List.set_cons_succ, List.set_cons_zero]
    exact w_rse (sim_var rfl)
  · try dsimp only [wipeD, List.set_cons_succ, List.set_cons_zero]
    refine w_nil ?_
    try dsimp only [wipeD, List.set_cons_succ, List.set_cons_zero]
    refine w_ifp (ts_b (sim_cmp (ev_p (sim_bi (arg_p (sim_var rfl) (arg_nil (bi_len _)))) (ev_p (sim_gI _ _) (op_gt _ _))))) ?_ ?_
    · try dsimp only [wipeD, List.set_cons_succ, List.set_cons_zero]
      exact w_rse (sim_bi (arg_p (sim_var rfl) (arg_nil (bi_len _))))
    · try dsimp only [wipeD, List.set_cons_succ, List.set_cons_zero]
      refine w_nil ?_
      try dsimp only [wipeD, List.set_cons_succ, List.set_cons_zero]
      refine w_for (fun _s : Unit => [some (enc (sheet : Int × (List (List (Option Int))))), some (enc (p1.1 : Int)), some (enc (p1.2 : List (List (Option Int)))), none, none]) () rfl (it_enm (iv_p (sim_var rfl) (io_enm _))) (fun p4 _s => ⟨_, rfl, ?_⟩) (fun _s => ?_)
      · try dsimp only [wipeD, List.set_cons_succ, List.set_cons_zero]
        refine w_ife (ts_b (sim_not (ev_m (sim_callS (arg_p (sim_var rfl) (arg_p (sim_var rfl) (arg_nil (op_scal (sim_is_row _ (by omega) _ _)))))) fun v5 => (op_not _)))) ?_ ?_
        · try dsimp only [wipeD, List.set_cons_succ, List.set_cons_zero]
          exact w_rse (sim_var rfl)
        · try dsimp only [wipeD, List.set_cons_succ, List.set_cons_zero]
          refine w_nil ?_
          try dsimp only [wipeD, List.set_cons_succ, List.set_cons_zero]
          refine w_fgt ?_
          try dsimp only [wipeD, List.set_cons_succ, List.set_cons_zero]
          refine w_nil ?_
          exact Or.inl rfl
      · try dsimp only [wipeD, List.set_cons_succ, List.set_cons_zero]
        refine w_nil ?_
        exact Or.inr ⟨_, rfl, rfl⟩
theorem sim__law_raised (n : Nat) (hn : 3 ≤ n) (items : Int) : Sim (DL.run Fs n 4 [enc items]) (t_law_raised items) := by
  obtain ⟨n, rfl⟩ : ∃ m, n = m + 1 := ⟨n - 1, by omega⟩
  refine sim_def (F := f__law_raised) rfl rfl ?_
  unfold t_law_raised
  dsimp only [f__law_raised, b__law_raised, List.map_cons, List.map_nil, List.replicate, List.cons_append, List.nil_append, Nat.reduceSub]
  refine w_try (fun _ : Unit => [some (enc (items : Int)), none]) ?_ (fun c i => (h_obj (k := fun p : Err => R.ok (some p)) (fun n => Or.inl rfl) h_nil)) (fun _ => ?_)
  · try dsimp only [wipeD, List.set_cons_succ, List.set_cons_zero]
    refine w_expr (sim_callS (arg_p (sim_tup (arg_p (sim_var rfl) (arg_p (sim_lst (arg_nil op_l0)) (arg_nil (op_t2 _ _))))) (arg_nil (op_scal (sim_check_sheet _ (by omega) _))))) (fun _ => ?_)
    refine w_nil ?_
    exact rfl
  · try dsimp only [wipeD, List.set_cons_succ, List.set_cons_zero]
    exact w_retv sim_cNo (fun a => Or.inl rfl)
theorem sim__law_mix (n : Nat) (hn : 1 ≤ n) (draws : List Int) (k : Int) (many : Int) : Sim (DL.run Fs n 5 [enc draws, enc k, enc many]) (t_law_mix draws k many) := by
  obtain ⟨n, rfl⟩ : ∃ m, n = m + 1 := ⟨n - 1, by omega⟩
  refine sim_def (F := f__law_mix) rfl rfl ?_
  unfold t_law_mix
  dsimp only [f__law_mix, b__law_mix, List.map_cons, List.map_nil, List.replicate, List.cons_append, List.nil_append, Nat.reduceSub]
  refine w_asg (sim_cI _) (fun value => ?_)
  try dsimp only [wipeD, List.set_cons_succ, List.set_cons_zero]
  refine w_frz ?_
  refine w_joinp (fun value : Int => [some (enc (draws : List Int)), some (enc (k : Int)), some (enc (many : Int)), some (enc (value : Int))]) (ts_b (sim_cmp (ev_p (sim_bi (arg_p (sim_var rfl) (arg_nil (bi_len _)))) (ev_p (sim_cI _) (op_gt _ _))))) ?_ ?_ (fun value => ?_)
  · try dsimp only [wipeD, List.set_cons_succ, List.set_cons_zero]
    refine w_asg (sim_ix (ev_p (sim_var rfl) (ev_m (sim_bin (ev_p (sim_bi (arg_p (sim_var rfl) (arg_nil (bi_int _)))) (ev_p (sim_bi (arg_p (sim_var rfl) (arg_nil (bi_len _)))) (op_mod _ _)))) fun v1 => (op_ix _ _)))) (fun value => ?_)
    try dsimp only [wipeD, List.set_cons_succ, List.set_cons_zero]
    refine w_frz ?_
    refine w_nil ?_
    exact rfl
  · try dsimp only [wipeD, List.set_cons_succ, List.set_cons_zero]
    refine w_nil ?_
    exact rfl
  · try dsimp only [wipeD, List.set_cons_succ, List.set_cons_zero]
    refine w_ifp (ts_b (sim_cmp (ev_p (sim_var rfl) (ev_p (sim_bi (arg_p (sim_var rfl) (arg_nil (bi_len _)))) (op_lt _ _))))) ?_ ?_
    · try dsimp only [wipeD, List.set_cons_succ, List.set_cons_zero]
      exact w_retv (sim_bin (ev_p (sim_bi (arg_p (sim_var rfl) (arg_nil (bi_int _)))) (ev_p (sim_var rfl) (op_mod _ _)))) (fun a => Or.inl rfl)
    · try dsimp only [wipeD, List.set_cons_succ, List.set_cons_zero]
      refine w_nil ?_
      try dsimp only [wipeD, List.set_cons_succ, List.set_cons_zero]
      exact w_retv (sim_bin (ev_m (sim_bi (arg_m (sim_bin (ev_m (sim_bi (arg_m (sim_bin (ev_m (sim_bin (ev_p (sim_var rfl) (ev_p (sim_cI _) (op_mul _ _)))) fun v2 => (ev_m (sim_bin (ev_p (sim_var rfl) (ev_p (sim_cI _) (op_mul _ _)))) fun v3 => (op_add _ _)))) fun v4 => (arg_nil (bi_int _)))) fun v5 => (ev_p (sim_cI _) (op_fdivl _ _ (by decide +kernel))))) fun v6 => (arg_nil (bi_int _)))) fun v7 => (ev_p (sim_var rfl) (op_mod _ _)))) (fun a => Or.inl rfl)
theorem sim__law_kinds (n : Nat) (hn : 1 ≤ n) (e : Err) : Sim (DL.run Fs n 6 [enc e]) (t_law_kinds e) := by
  obtain ⟨n, rfl⟩ : ∃ m, n = m + 1 := ⟨n - 1, by omega⟩
  refine sim_def (F := f__law_kinds) rfl rfl ?_
  unfold t_law_kinds
  dsimp only [f__law_kinds, b__law_kinds, List.map_cons, List.map_nil, List.replicate, List.cons_append, List.nil_append, Nat.reduceSub]
  exact w_retv (sim_lst (arg_m (sim_isE (ev_p (sim_var rfl) (op_isE _ _ _))) fun v1 => (arg_m (sim_isE (ev_p (sim_var rfl) (op_isE _ _ _))) fun v2 => (arg_m (sim_isE (ev_p (sim_var rfl) (op_isE _ _ _))) fun v3 => (arg_m (sim_isE (ev_p (sim_var rfl) (op_isE _ _ _))) fun v4 => (arg_m (sim_isE (ev_p (sim_var rfl) (op_isE _ _ _))) fun v5 => (arg_m (sim_isE (ev_p (sim_var rfl) (op_isE _ _ _))) fun v6 => (arg_m (sim_isE (ev_p (sim_var rfl) (op_isE _ _ _))) fun v7 => (arg_m (sim_isE (ev_p (sim_var rfl) (op_isE _ _ _))) fun v8 => (arg_m (sim_isE (ev_p (sim_var rfl) (op_isE _ _ _))) fun v9 => (arg_m (sim_isE (ev_p (sim_var rfl) (op_isE _ _ _))) fun v10 => (arg_m (sim_isE (ev_p (sim_var rfl) (op_isE _ _ _))) fun v11 => (arg_m (sim_isE (ev_p (sim_var rfl) (op_isE _ _ _))) fun v12 => (arg_m (sim_isE (ev_p (sim_var rfl) (op_isE _ _ _))) fun v13 => (arg_m (sim_isE (ev_p (sim_var rfl) (op_isE _ _ _))) fun v14 => (arg_m (sim_isE (ev_p (sim_var rfl) (op_isE _ _ _))) fun v15 => (arg_m (sim_isE (ev_p (sim_var rfl) (op_isE _ _ _))) fun v16 => (arg_m (sim_isE (ev_p (sim_var rfl) (op_isE _ _ _))) fun v17 => (arg_m (sim_isE (ev_p (sim_var rfl) (op_isE _ _ _))) fun v18 => (arg_m (sim_isE (ev_p (sim_var rfl) (op_isE _ _ _))) fun v19 => (arg_m (sim_isE (ev_p (sim_var rfl) (op_isE _ _ _))) fun v20 => (arg_m (sim_isE (ev_p (sim_var rfl) (op_isE _ _ _))) fun v21 => (arg_m (sim_isE (ev_p (sim_var rfl) (op_isE _ _ _))) fun v22 => (arg_m (sim_isE (ev_p (sim_var rfl) (op_isE _ _ _))) fun v23 => (arg_m (sim_isE (ev_p (sim_var rfl) (op_isE _ _ _))) fun v24 => (arg_m (sim_isE (ev_p (sim_var rfl) (op_isE _ _ _))) fun v25 => (arg_m (sim_isE (ev_p (sim_var rfl) (op_isE _ _ _))) fun v26 => (arg_m (sim_isE (ev_p (sim_var rfl) (op_isE _ _ _))) fun v27 => (arg_m (sim_isE (ev_p (sim_var rfl) (op_isE _ _ _))) fun v28 => (arg_m (sim_isE (ev_p (sim_var rfl) (op_isE _ _ _))) fun v29 => (arg_m (sim_isE (ev_p (sim_var rfl) (op_isE _ _ _))) fun v30 => (arg_m (sim_isE (ev_p (sim_var rfl) (op_isE _ _ _))) fun v31 => (arg_m (sim_isE (ev_p (sim_var rfl) (op_isE _ _ _))) fun v32 => (arg_m (sim_isE (ev_p (sim_var rfl) (op_isE _ _ _))) fun v33 => (arg_m (sim_isE (ev_p (sim_var rfl) (op_isE _ _ _))) fun v34 => (arg_m (sim_isE (ev_p (sim_var rfl) (op_isE _ _ _))) fun v35 => (arg_m (sim_isE (ev_p (sim_var rfl) (op_isE _ _ _))) fun v36 => (arg_m (sim_isE (ev_p (sim_var rfl) (op_isE _ _ _))) fun v37 => (arg_m (sim_isE (ev_p (sim_var rfl) (op_isE _ _ _))) fun v38 => (arg_m (sim_isE (ev_p (sim_var rfl) (op_isE _ _ _))) fun v39 => (arg_m (sim_isE (ev_p (sim_var rfl) (op_isE _ _ _))) fun v40 => (arg_nil (op_ln (as := ([v1, v2, v3, v4, v5, v6, v7, v8, v9, v10, v11, v12, v13, v14, v15, v16, v17, v18, v19, v20, v21, v22, v23, v24, v25, v26, v27, v28, v29, v30, v31, v32, v33, v34, v35, v36, v37, v38, v39, v40] : List Bool)) rfl (Nat.le_of_ble_eq_true rfl)))))))))))))))))))))))))))))))))))))))))))) (fun a => Or.inl rfl)
theorem sim_law (n : Nat) (hn : 4 ≤ n) (script : Script) : Sim (DL.run Fs n 7 [enc script]) (t_law script) := by
  obtain ⟨n, rfl⟩ : ∃ m, n = m + 1 := ⟨n - 1, by omega⟩
  refine sim_def (F := f_law) rfl rfl ?_
  unfold t_law
  dsimp only [f_law, b_law, List.map_cons, List.map_nil, List.replicate, List.cons_append, List.nil_append, Nat.reduceSub]
  refine w_asg (sim_call (arg_p (sim_var rfl) (arg_nil (sim__law_draws _ (by omega) _)))) (fun draws => ?_)
  try dsimp only [wipeD, List.set_cons_succ, List.set_cons_zero]
  refine w_frz ?_
  refine w_asg (sim_bin (ev_m (sim_callS (arg_p (sim_var rfl) (arg_p (sim_cI _) (arg_p (sim_cI _) (arg_nil (op_scal (sim__law_mix _ (by omega) _ _ _))))))) fun v1 => (ev_p (sim_cI _) (op_sub _ _)))) (fun number => ?_)
  try dsimp only [wipeD, List.set_cons_succ, List.set_cons_zero]
  refine w_frz ?_
  refine w_asg (sim_call (arg_p (sim_var rfl) (arg_nil (sim__law_made _ (by omega) _)))) (fun made => ?_)
  try dsimp only [wipeD, List.set_cons_succ, List.set_cons_zero]
  refine w_frz ?_
  refine w_forC (β := Bool) (fun _s : Unit => [some (enc (script : Script)), some (enc (draws : List Int)), some (enc (number : Int)), some (enc (made : List Err)), none, none, none, none, none]) () rfl (it_rng1 (iv_p (sim_bi (arg_p (sim_var rfl) (arg_nil (bi_len _)))) (io_rng1 _))) (fun k _s => ⟨_, rfl, ?_⟩) (fun _ => Or.inl rfl) (fun _s => ?_)
  · try dsimp only [wipeD, List.set_cons_succ, List.set_cons_zero]
    refine w_ife (ts_b (sim_or (or_m (sim_not (ev_m (sim_isE (ev_m (sim_ix (ev_p (sim_var rfl) (ev_p (sim_var rfl) (op_ix _ _)))) fun v2 => (op_isE _ _ _))) fun v3 => (op_not _))) (or_m (sim_not (ev_m (sim_isE (ev_m (sim_ix (ev_p (sim_var rfl) (ev_p (sim_var rfl) (op_ix _ _)))) fun v4 => (op_isE _ _ _))) fun v5 => (op_not _))) (or_1 (sim_cmp (ev_m (sim_att (ev_m (sim_ix (ev_p (sim_var rfl) (ev_p (sim_var rfl) (op_ix _ _)))) fun v6 => (op_att _ _))) fun v7 => (ev_p (sim_bin (ev_p (sim_var rfl) (ev_p (sim_var rfl) (op_add _ _)))) (op_ne (by decide) _ _))))))))) ?_ ?_
    · try dsimp only [wipeD, List.set_cons_succ, List.set_cons_zero]
      exact w_ret (ta := R.ok (false : Bool)) (k := fun a => R.ok (Ctl.ret a)) (sim_cB _) (fun a => rfl)
    · try dsimp only [wipeD, List.set_cons_succ, List.set_cons_zero]
      refine w_nil ?_
      try dsimp only [wipeD, List.set_cons_succ, List.set_cons_zero]
      refine w_ife (ts_b (sim_cmp (ev_m (sim_call (arg_m (sim_ix (ev_p (sim_var rfl) (ev_p (sim_var rfl) (op_ix _ _)))) fun v10 => (arg_nil (sim__law_kinds _ (by omega) _)))) fun v12 => (ev_m (sim_lc0mp (it_rng1 (iv_p (sim_bi (arg_p (sim_var rfl) (arg_nil (bi_len _)))) (io_rng1 _))) (fun t => ⟨_, rfl, (sim_cmp (ev_p (sim_var rfl) (ev_p (sim_var rfl) (op_eq (by decide) _ _))))⟩)) fun v13 => (op_ne (by decide) _ _))))) ?_ ?_
      · try dsimp only [wipeD, List.set_cons_succ, List.set_cons_zero]
        exact w_ret (ta := R.ok (false : Bool)) (k := fun a => R.ok (Ctl.ret a)) (sim_cB _) (fun a => rfl)
      · try dsimp only [wipeD, List.set_cons_succ, List.set_cons_zero]
        refine w_nil ?_
        try dsimp only [wipeD, List.set_cons_succ, List.set_cons_zero]
        refine w_ife (ts_b (sim_or (or_m (sim_isi (ev_m (sim_att (ev_m (sim_ix (ev_p (sim_var rfl) (ev_p (sim_var rfl) (op_ix _ _)))) fun v15 => (op_att _ _))) fun v16 => (op_isiIb _))) (or_1 (sim_not (ev_m (sim_isi (ev_m (sim_att (ev_m (sim_ix (ev_p (sim_var rfl) (ev_p (sim_var rfl) (op_ix _ _)))) fun v18 => (op_att _ _))) fun v19 => (op_isiIi _))) fun v20 => (op_not _))))))) ?_ ?_
        · try dsimp only [wipeD, List.set_cons_succ, List.set_cons_zero]
          exact w_ret (ta := R.ok (false : Bool)) (k := fun a => R.ok (Ctl.ret a)) (sim_cB _) (fun a => rfl)
        · try dsimp only [wipeD, List.set_cons_succ, List.set_cons_zero]
          refine w_nil ?_
          try dsimp only [wipeD, List.set_cons_succ, List.set_cons_zero]
          refine w_fgt ?_
          try dsimp only [wipeD, List.set_cons_succ, List.set_cons_zero]
          refine w_nil ?_
          exact Or.inl rfl
  · try dsimp only [wipeD, List.set_cons_succ, List.set_cons_zero]
    refine w_asg (sim_mk (ev_p (sim_var rfl) (op_mk _ _))) (fun base => ?_)
    try dsimp only [wipeD, List.set_cons_succ, List.set_cons_zero]
    refine w_frz ?_
    refine w_ife (ts_b (sim_or (or_m (sim_cmp (ev_m (sim_att (ev_p (sim_var rfl) (op_att _ _))) fun v22 => (ev_p (sim_var rfl) (op_ne (by decide) _ _)))) (or_m (sim_cmp (ev_p (sim_cB _) (ev_m (sim_call (arg_p (sim_var rfl) (arg_nil (sim__law_kinds _ (by omega) _)))) fun v23 => (op_in (by decide) _ _)))) (or_1 (sim_not (ev_m (sim_isE (ev_p (sim_var rfl) (op_isE _ _ _))) fun v24 => (op_not _)))))))) ?_ ?_
    · try dsimp only [wipeD, List.set_cons_succ, List.set_cons_zero]
      exact w_retv (sim_cB _) (fun a => Or.inl rfl)
    · try dsimp only [wipeD, List.set_cons_succ, List.set_cons_zero]
      refine w_nil ?_
      try dsimp only [wipeD, List.set_cons_succ, List.set_cons_zero]
      refine w_asg (sim_ix (ev_p (sim_lst (arg_p (sim_cI _) (arg_p (sim_cI _) (arg_p (sim_neg (ev_p (sim_cI _) (op_neg _))) (arg_p (sim_cI _) (arg_nil (op_ln (as := ([0, 11, -1, 99] : List Int)) rfl (Nat.le_of_ble_eq_true rfl)))))))) (ev_m (sim_callS (arg_p (sim_var rfl) (arg_p (sim_cI _) (arg_p (sim_cI _) (arg_nil (op_scal (sim__law_mix _ (by omega) _ _ _))))))) fun v27 => (op_ix _ _)))) (fun items => ?_)
      try dsimp only [wipeD, List.set_cons_succ, List.set_cons_zero]
      refine w_frz ?_
      refine w_asg (sim_call (arg_p (sim_var rfl) (arg_nil (sim__law_raised _ (by omega) _)))) (fun told => ?_)
      try dsimp only [wipeD, List.set_cons_succ, List.set_cons_zero]
      refine w_frz ?_
      exact w_retv (sim_and (and_pm (sim_cmp (ev_p (sim_var rfl) (ev_p sim_cN (op_isnn _ fun a => (NotNone.nn a .none).2.2)))) (and_m (sim_cmp (ev_m (sim_att (ev_m (sim_the (sim_var rfl)) fun v28 => (op_att _ _))) fun v29 => (ev_p (sim_var rfl) (op_eq (by decide) _ _)))) (and_1 (sim_cmp (ev_m (sim_call (arg_m (sim_the (sim_var rfl)) fun v30 => (arg_nil (sim__law_kinds _ (by omega) _)))) fun v32 => (ev_m (sim_lc0mp (it_rng1 (iv_p (sim_bi (arg_p (sim_var rfl) (arg_nil (bi_len _)))) (io_rng1 _))) (fun t => ⟨_, rfl, (sim_cmp (ev_p (sim_var rfl) (ev_p (sim_cI _) (op_eq (by decide) _ _))))⟩)) fun v33 => (op_eq (by decide) _ _)))))))) (fun a => Or.inl rfl)
end K00
set_option Elab.async false
set_option linter.all false
set_option maxRecDepth 100000
set_option maxHeartbeats 1000000
namespace K00
open PySem DL DT TT
theorem forC_all' {α β : Type} {xs : List α} {f : α → Unit → R (Ctl Unit β)} (h : ∀ x ∈ xs, f x () = .ok (.nx ())) : forC xs () f = .ok (.nx ()) := by
  induction xs with
  | nil => rfl
  | cons x xs ih =>
    rw [forC, h x List.mem_cons_self]
    exact ih fun y m => h y (List.mem_cons_of_mem _ m)
def names : List Str := [("OutOfRange" : Str), ("TooMany" : Str), ("WrongSize" : Str), ("BadRow" : Str), ("NotFull" : Str), ("BadFraction" : Str), ("NotASet" : Str), ("BadState" : Str), ("BadEntailment" : Str), ("BadPath" : Str), ("BadLaw" : Str), ("BadPrice" : Str), ("BadNoise" : Str), ("BadAnswer" : Str), ("BadSum" : Str), ("BadRating" : Str), ("BadOffer" : Str), ("BadLink" : Str), ("BadItem" : Str), ("BadEnemy" : Str), ("BadPlan" : Str), ("Unlike" : Str), ("BadNeed" : Str), ("BadSide" : Str), ("BadForms" : Str), ("BadBoundary" : Str), ("BadCounts" : Str), ("BadCut" : Str), ("BadEase" : Str), ("BadPattern" : Str), ("BadGroup" : Str), ("BadTest" : Str), ("BadVotes" : Str), ("BadPupil" : Str), ("BadRoom" : Str), ("BadSign" : Str), ("BadTop" : Str), ("BadMemory" : Str), ("BadDay" : Str), ("BadBox" : Str)]
def asks (c : Str) : List Bool := names.map fun z => exm z c || decide (z = ("ValueError" : Str))
theorem isE_ok {e : Err} (h : ecs.contains e.cls = true) (z : Str) : isER z ecs e = .ok (exm z e.cls || decide (z = ("ValueError" : Str))) := by
  unfold isER; rw [h]; rfl
theorem att_ok {e : Err} (h : ecs.contains e.cls = true) : attR ecs e = .ok e.at_ := by
  unfold attR; rw [h]; rfl
theorem kinds_ok {e : Err} (h : ecs.contains e.cls = true) : t_law_kinds e = .ok (asks e.cls) := by
  unfold t_law_kinds
  simp only [isE_ok h, rb_ok]
  rfl
def made (n : Int) : List Err := names.zipIdx.map fun p => Err.mk p.1 (n + ((p.2 : Nat) : Int))
theorem made_ok (n : Int) : t_law_made n = .ok (made n) := by
  unfold t_law_made; rfl
theorem made_len (n : Int) : (made n).length = 40 := by unfold made; rw [List.length_map, List.length_zipIdx]; rfl
theorem made_at (n : Int) {k : Nat} (h : k < 40) : (made n)[k]? = some (Err.mk (names.getD k "") (n + ((k : Nat) : Int))) := by
  have hl : names.length = 40 := rfl
  unfold made
  rw [List.getElem?_map, List.getElem?_zipIdx, List.getElem?_eq_getElem (by omega), List.getD_eq_getElem?_getD, List.getElem?_eq_getElem (by omega)]
  simp
theorem in_all : ∀ k : Fin 40, ecs.contains (names.getD k.val "") = true := by decide +kernel
theorem asks_all : ∀ k : Fin 40, asks (names.getD k.val "") = (irange 0 40).map fun t => decide (t = (k.val : Int)) := by decide +kernel
theorem hall_all : ∀ k : Fin 40, (exm ("HallError" : Str) (names.getD k.val "") || decide (("HallError" : Str) = ("ValueError" : Str))) = true := by decide +kernel
theorem base_in : ecs.contains (("HallError" : String) : Str) = true := by decide +kernel
theorem base_asks : decide (true ∈ asks (("HallError" : String) : Str)) = false := by decide +kernel
theorem raised_ok {i : Int} (h : ¬ (1 ≤ i ∧ i ≤ 10)) : t_law_raised i = .ok (some (Err.mk (("OutOfRange" : String) : Str) i)) := by
  have e : t_check_sheet (i, ([] : List (List (Option Int)))) = .exc (("OutOfRange" : String) : Str) (enc i) := by
    unfold t_check_sheet
    have z : (decide (1 ≤ i) && decide (i ≤ 10)) = false := by
      rw [Bool.and_eq_false_iff, decide_eq_false_iff_not, decide_eq_false_iff_not]; omega
    rw [rb_ok]
    dsimp only
    rw [z]; rfl
  unfold t_law_raised
  rw [e]
  show (if exm "HallError" (("OutOfRange" : String) : Str) then (intOf (enc i)).bind fun n => (fun p : Err => R.ok (some p)) (Err.mk (("OutOfRange" : String) : Str) n) else R.exc (("OutOfRange" : String) : Str) (enc i)) = _
  rw [show exm "HallError" (("OutOfRange" : String) : Str) = true by decide +kernel]
  rfl
theorem t_law_ok (ns : List Int) (hn : ns.length ≤ 63) : t_law ⟨ns⟩ = .ok true := by
  refine Ok.get ?_
  unfold t_law
  refine (draws_ok hn).bind fun ds hd => ?_
  refine Ok.bind (P := fun _ => True) ((mix_ok hd (by decide) (by decide) (by decide)).bind fun v _ => .ret trivial) fun n _ => ?_
  refine Ok.eq (made_ok n) ?_
  rw [made_len]
  refine Ok.eq (rng1_ok (by decide) (by decide)) ?_
  refine Ok.eq (a := .nx ()) (forC_all' fun k hk => ?_) ?_
  · obtain ⟨h0, h1⟩ := mem_irange.mp hk
    obtain ⟨j, rfl⟩ : ∃ j : Nat, k = (j : Int) := ⟨k.toNat, by omega⟩
    have hj : j < 40 := by omega
    have ix : ixR (made n) (j : Int) = .ok (Err.mk (names.getD j "") (n + (j : Int))) := ixR_ok rfl (made_at n hj)
    have hin : ecs.contains (names.getD j "") = true := in_all ⟨j, hj⟩
    have hh : (exm ("HallError" : Str) (names.getD j "") || decide (("HallError" : Str) = ("ValueError" : Str))) = true := hall_all ⟨j, hj⟩
    have ha : asks (names.getD j "") = (irange 0 40).map fun t => decide (t = (j : Int)) := asks_all ⟨j, hj⟩
    have i1 := isE_ok (e := Err.mk (names.getD j "") (n + (j : Int))) hin (("HallError" : String) : Str)
    have i2 := isE_ok (e := Err.mk (names.getD j "") (n + (j : Int))) hin (("ValueError" : String) : Str)
    have i3 := att_ok (e := Err.mk (names.getD j "") (n + (j : Int))) hin
    have i4 := kinds_ok (e := Err.mk (names.getD j "") (n + (j : Int))) hin
    dsimp only at i1 i2 i3 i4
    rw [hh] at i1
    rw [decide_eq_true rfl, Bool.or_true] at i2
    rw [ix, rb_ok, i1, rb_ok, rb_ok, if_neg (by decide), rb_ok, i2, rb_ok, rb_ok, if_neg (by decide), rb_ok, i3, rb_ok, decide_eq_true rfl]
    rw [rb_ok, if_neg (by decide), rb_ok, i4, rb_ok, rng1_ok (by decide) (by decide), rb_ok, rb_ok, ha]
    simp
  · have b1 := att_ok (e := Err.mk (("HallError" : String) : Str) n) base_in
    have b2 := kinds_ok (e := Err.mk (("HallError" : String) : Str) n) base_in
    have b3 := isE_ok (e := Err.mk (("HallError" : String) : Str) n) base_in (("ValueError" : String) : Str)
    dsimp only at b1 b2 b3
    rw [decide_eq_true rfl, Bool.or_true] at b3
    unfold Ctl.go
    dsimp only
    rw [rb_ok, b1, rb_ok, decide_eq_true rfl, rb_ok]
    refine Ok.eq (a := false) ?_ ?_
    · rw [if_neg (by decide), b2, rb_ok, base_asks, rb_ok, if_neg (by decide), b3, rb_ok]; rfl
    rw [if_neg (by decide)]
    refine Ok.bind (P := fun i => ¬ (1 ≤ i ∧ i ≤ 10)) ?_ fun i hi => ?_
    · refine (mix_ok hd (by decide) (by decide) (by decide)).bind fun v hv => ?_
      have : v = 0 ∨ v = 1 ∨ v = 2 ∨ v = 3 := by omega
      rcases this with rfl | rfl | rfl | rfl
      · exact .of (a := 0) rfl (by omega)
      · exact .of (a := 11) rfl (by omega)
      · exact .of (a := -1) rfl (by omega)
      · exact .of (a := 99) rfl (by omega)
    refine Ok.eq (raised_ok hi) ?_
    have c0 : ecs.contains (("OutOfRange" : String) : Str) = true := in_all ⟨0, by decide⟩
    have c1 := att_ok (e := Err.mk (("OutOfRange" : String) : Str) i) c0
    have c2 := kinds_ok (e := Err.mk (("OutOfRange" : String) : Str) i) c0
    have c3 : asks (("OutOfRange" : String) : Str) = (irange 0 40).map fun t => decide (t = 0) := asks_all ⟨0, by decide⟩
    dsimp only at c1 c2
    refine Ok.of (a := true) ?_ rfl
    rw [show (some (Err.mk (("OutOfRange" : String) : Str) i)).isSome = true from rfl, if_pos rfl, show theR (some (Err.mk (("OutOfRange" : String) : Str) i)) = .ok (Err.mk (("OutOfRange" : String) : Str) i) from rfl, rb_ok, c1, rb_ok, decide_eq_true rfl, rb_ok, if_pos rfl, rb_ok, c2, rb_ok, rng1_ok (by decide) (by decide), rb_ok, rb_ok, c3]
    simp
end K00
namespace K00
open PySem PySem.Spec PyProof.Rows L2 DL DT TT
theorem law_main : ∀ ns : List Int, ns.length ≤ 63 → DL.run Fs 20 7 [rdD (ns.map .int)] = .ok (.bool true) := by
  intro ns hn
  have h := sim_law 20 (by omega) ⟨ns⟩
  rw [t_law_ok ns hn] at h
  exact h
end K00
open K00 PySem PySem.W PyProof.Rows
set_option maxHeartbeats 0 in
theorem PySem.Challenge.cw_examworks_k00_errors_are_apart_holds : PySem.Challenge.rw_examworks_k00_errors_are_apart.Holds := by
  w_on; o_law; k_head; (case hw => w_witness2)
  k_fill
  refine DL.walk_dl (l := PySem.Challenge.rw_examworks_k00_errors_are_apart) (n := 63) (k := 20) (f := 7) (Fs := Fs) rfl (by decide) rfl ⟨rfl, by decide, by decide⟩ (fun w h Y => PySem.W.kIn_of Y) law_main ?F
  case F =>
    intro w mg h KX G
    refine' DL.with_hw (T := TX) (P := PySem.Challenge.rw_examworks_k00_errors_are_apart.prog) KX ?hw ?hr
    case hw =>
      refine' DL.with_hall (P := PySem.Challenge.rw_examworks_k00_errors_are_apart.prog) KX G ?zzhn ?zzhi ?zzhl ?zzhc ?zzhlc ?zzhll ?zzhcl ?zzht ?zzhth ?zzhsu ?zzhline ?zzhv ?zzhf ?zzhtop ?zzhr
      (case zzhn => k_is); (case zzhi => k_is); (case zzhl => k_is); (case zzhc => k_is); (case zzhlc => k_is); (case zzhll => k_is); (case zzhcl => k_is); (case zzht => k_is); (case zzhth => k_is); (case zzhsu => k_is)
      (case zzhline => rfl); (case zzhv => rfl); (case zzhf => first | rfl | decide +kernel); (case zzhtop => first | rfl | decide +kernel)
      intro hsup hfn
      refine' DL.hall_mkE (l := [(("BadAnswer" : Str), _), (("BadBoundary" : Str), _), (("BadBox" : Str), _), (("BadCounts" : Str), _), (("BadCut" : Str), _), (("BadDay" : Str), _), (("BadEase" : Str), _), (("BadEnemy" : Str), _), (("BadEntailment" : Str), _), (("BadForms" : Str), _), (("BadFraction" : Str), _), (("BadGroup" : Str), _), (("BadItem" : Str), _), (("BadLaw" : Str), _), (("BadLink" : Str), _), (("BadMemory" : Str), _), (("BadNeed" : Str), _), (("BadNoise" : Str), _), (("BadOffer" : Str), _), (("BadPath" : Str), _), (("BadPattern" : Str), _), (("BadPlan" : Str), _), (("BadPrice" : Str), _), (("BadPupil" : Str), _), (("BadRating" : Str), _), (("BadRoom" : Str), _), (("BadRow" : Str), _), (("BadSide" : Str), _), (("BadSign" : Str), _), (("BadState" : Str), _), (("BadSum" : Str), _), (("BadTest" : Str), _), (("BadTop" : Str), _), (("BadVotes" : Str), _), (("HallError" : Str), _), (("NotASet" : Str), _), (("NotFull" : Str), _), (("OutOfRange" : Str), _), (("TooMany" : Str), _), (("Unlike" : Str), _), (("WrongSize" : Str), _)]) rfl hsup hfn ⟨?p0, ?p1, ?p2, ?p3, ?p4, ?p5, ?p6, ?p7, ?p8, ?p9, ?p10, ?p11, ?p12, ?p13, ?p14, ?p15, ?p16, ?p17, ?p18, ?p19, ?p20, ?p21, ?p22, ?p23, ?p24, ?p25, ?p26, ?p27, ?p28, ?p29, ?p30, ?p31, ?p32, ?p33, ?p34, ?p35, ?p36, ?p37, ?p38, ?p39, ?p40, trivial⟩ ?dec
      case p0 =>
        dsimp only
        refine' DL.clsE_mk (x := "BadAnswer") hfn KX G ?nc0 ?lc0 ?bc0 ?sc0 ?oc0 ?ic0 ?kc0 ?ec0 ?vc0 ?tc0 ?uc0 ?pc0 ?gc0 ?hc0 ?dc0 ?ac0 ?fc0 ?wc0 ?mc0 ?qc0
        (case nc0 => k_is); (case lc0 => k_is); (case bc0 => first | rfl | decide +kernel); (case sc0 => k_is); (case oc0 => k_is); (case ic0 => k_is); (case kc0 => k_is); (case ec0 => k_is); (case vc0 => k_is); (case tc0 => k_is); (case uc0 => k_is); (case pc0 => ks_is); (case gc0 => k_is); (case hc0 => k_is); (case dc0 => k_is); (case ac0 => k_is); (case fc0 => k_is); (case wc0 => k_is); (case mc0 => k_is); (case qc0 => first | rfl | decide +kernel)
      case p1 =>
        dsimp only
        refine' DL.clsE_mk (x := "BadBoundary") hfn KX G ?nc1 ?lc1 ?bc1 ?sc1 ?oc1 ?ic1 ?kc1 ?ec1 ?vc1 ?tc1 ?uc1 ?pc1 ?gc1 ?hc1 ?dc1 ?ac1 ?fc1 ?wc1 ?mc1 ?qc1
        (case nc1 => k_is); (case lc1 => k_is); (case bc1 => first | rfl | decide +kernel); (case sc1 => k_is); (case oc1 => k_is); (case ic1 => k_is); (case kc1 => k_is); (case ec1 => k_is); (case vc1 => k_is); (case tc1 => k_is); (case uc1 => k_is); (case pc1 => ks_is); (case gc1 => k_is); (case hc1 => k_is); (case dc1 => k_is); (case ac1 => k_is); (case fc1 => k_is); (case wc1 => k_is); (case mc1 => k_is); (case qc1 => first | rfl | decide +kernel)
      case p2 =>
        dsimp only
        refine' DL.clsE_mk (x := "BadBox") hfn KX G ?nc2 ?lc2 ?bc2 ?sc2 ?oc2 ?ic2 ?kc2 ?ec2 ?vc2 ?tc2 ?uc2 ?pc2 ?gc2 ?hc2 ?dc2 ?ac2 ?fc2 ?wc2 ?mc2 ?qc2
        (case nc2 => k_is); (case lc2 => k_is); (case bc2 => first | rfl | decide +kernel); (case sc2 => k_is); (case oc2 => k_is); (case ic2 => k_is); (case kc2 => k_is); (case ec2 => k_is); (case vc2 => k_is); (case tc2 => k_is); (case uc2 => k_is); (case pc2 => ks_is); (case gc2 => k_is); (case hc2 => k_is); (case dc2 => k_is); (case ac2 => k_is); (case fc2 => k_is); (case wc2 => k_is); (case mc2 => k_is); (case qc2 => first | rfl | decide +kernel)
      case p3 =>
        dsimp only
        refine' DL.clsE_mk (x := "BadCounts") hfn KX G ?nc3 ?lc3 ?bc3 ?sc3 ?oc3 ?ic3 ?kc3 ?ec3 ?vc3 ?tc3 ?uc3 ?pc3 ?gc3 ?hc3 ?dc3 ?ac3 ?fc3 ?wc3 ?mc3 ?qc3
        (case nc3 => k_is); (case lc3 => k_is); (case bc3 => first | rfl | decide +kernel); (case sc3 => k_is); (case oc3 => k_is); (case ic3 => k_is); (case kc3 => k_is); (case ec3 => k_is); (case vc3 => k_is); (case tc3 => k_is); (case uc3 => k_is); (case pc3 => ks_is); (case gc3 => k_is); (case hc3 => k_is); (case dc3 => k_is); (case ac3 => k_is); (case fc3 => k_is); (case wc3 => k_is); (case mc3 => k_is); (case qc3 => first | rfl | decide +kernel)
      case p4 =>
        dsimp only
        refine' DL.clsE_mk (x := "BadCut") hfn KX G ?nc4 ?lc4 ?bc4 ?sc4 ?oc4 ?ic4 ?kc4 ?ec4 ?vc4 ?tc4 ?uc4 ?pc4 ?gc4 ?hc4 ?dc4 ?ac4 ?fc4 ?wc4 ?mc4 ?qc4
        (case nc4 => k_is); (case lc4 => k_is); (case bc4 => first | rfl | decide +kernel); (case sc4 => k_is); (case oc4 => k_is); (case ic4 => k_is); (case kc4 => k_is); (case ec4 => k_is); (case vc4 => k_is); (case tc4 => k_is); (case uc4 => k_is); (case pc4 => ks_is); (case gc4 => k_is); (case hc4 => k_is); (case dc4 => k_is); (case ac4 => k_is); (case fc4 => k_is); (case wc4 => k_is); (case mc4 => k_is); (case qc4 => first | rfl | decide +kernel)
      case p5 =>
        dsimp only
        refine' DL.clsE_mk (x := "BadDay") hfn KX G ?nc5 ?lc5 ?bc5 ?sc5 ?oc5 ?ic5 ?kc5 ?ec5 ?vc5 ?tc5 ?uc5 ?pc5 ?gc5 ?hc5 ?dc5 ?ac5 ?fc5 ?wc5 ?mc5 ?qc5
        (case nc5 => k_is); (case lc5 => k_is); (case bc5 => first | rfl | decide +kernel); (case sc5 => k_is); (case oc5 => k_is); (case ic5 => k_is); (case kc5 => k_is); (case ec5 => k_is); (case vc5 => k_is); (case tc5 => k_is); (case uc5 => k_is); (case pc5 => ks_is); (case gc5 => k_is); (case hc5 => k_is); (case dc5 => k_is); (case ac5 => k_is); (case fc5 => k_is); (case wc5 => k_is); (case mc5 => k_is); (case qc5 => first | rfl | decide +kernel)
      case p6 =>
        dsimp only
        refine' DL.clsE_mk (x := "BadEase") hfn KX G ?nc6 ?lc6 ?bc6 ?sc6 ?oc6 ?ic6 ?kc6 ?ec6 ?vc6 ?tc6 ?uc6 ?pc6 ?gc6 ?hc6 ?dc6 ?ac6 ?fc6 ?wc6 ?mc6 ?qc6
        (case nc6 => k_is); (case lc6 => k_is); (case bc6 => first | rfl | decide +kernel); (case sc6 => k_is); (case oc6 => k_is); (case ic6 => k_is); (case kc6 => k_is); (case ec6 => k_is); (case vc6 => k_is); (case tc6 => k_is); (case uc6 => k_is); (case pc6 => ks_is); (case gc6 => k_is); (case hc6 => k_is); (case dc6 => k_is); (case ac6 => k_is); (case fc6 => k_is); (case wc6 => k_is); (case mc6 => k_is); (case qc6 => first | rfl | decide +kernel)
      case p7 =>
        dsimp only
        refine' DL.clsE_mk (x := "BadEnemy") hfn KX G ?nc7 ?lc7 ?bc7 ?sc7 ?oc7 ?ic7 ?kc7 ?ec7 ?vc7 ?tc7 ?uc7 ?pc7 ?gc7 ?hc7 ?dc7 ?ac7 ?fc7 ?wc7 ?mc7 ?qc7
        (case nc7 => k_is); (case lc7 => k_is); (case bc7 => first | rfl | decide +kernel); (case sc7 => k_is); (case oc7 => k_is); (case ic7 => k_is); (case kc7 => k_is); (case ec7 => k_is); (case vc7 => k_is); (case tc7 => k_is); (case uc7 => k_is); (case pc7 => ks_is); (case gc7 => k_is); (case hc7 => k_is); (case dc7 => k_is); (case ac7 => k_is); (case fc7 => k_is); (case wc7 => k_is); (case mc7 => k_is); (case qc7 => first | rfl | decide +kernel)
      case p8 =>
        dsimp only
        refine' DL.clsE_mk (x := "BadEntailment") hfn KX G ?nc8 ?lc8 ?bc8 ?sc8 ?oc8 ?ic8 ?kc8 ?ec8 ?vc8 ?tc8 ?uc8 ?pc8 ?gc8 ?hc8 ?dc8 ?ac8 ?fc8 ?wc8 ?mc8 ?qc8
        (case nc8 => k_is); (case lc8 => k_is); (case bc8 => first | rfl | decide +kernel); (case sc8 => k_is); (case oc8 => k_is); (case ic8 => k_is); (case kc8 => k_is); (case ec8 => k_is); (case vc8 => k_is); (case tc8 => k_is); (case uc8 => k_is); (case pc8 => ks_is); (case gc8 => k_is); (case hc8 => k_is); (case dc8 => k_is); (case ac8 => k_is); (case fc8 => k_is); (case wc8 => k_is); (case mc8 => k_is); (case qc8 => first | rfl | decide +kernel)
      case p9 =>
        dsimp only
        refine' DL.clsE_mk (x := "BadForms") hfn KX G ?nc9 ?lc9 ?bc9 ?sc9 ?oc9 ?ic9 ?kc9 ?ec9 ?vc9 ?tc9 ?uc9 ?pc9 ?gc9 ?hc9 ?dc9 ?ac9 ?fc9 ?wc9 ?mc9 ?qc9
        (case nc9 => k_is); (case lc9 => k_is); (case bc9 => first | rfl | decide +kernel); (case sc9 => k_is); (case oc9 => k_is); (case ic9 => k_is); (case kc9 => k_is); (case ec9 => k_is); (case vc9 => k_is); (case tc9 => k_is); (case uc9 => k_is); (case pc9 => ks_is); (case gc9 => k_is); (case hc9 => k_is); (case dc9 => k_is); (case ac9 => k_is); (case fc9 => k_is); (case wc9 => k_is); (case mc9 => k_is); (case qc9 => first | rfl | decide +kernel)
      case p10 =>
        dsimp only
        refine' DL.clsE_mk (x := "BadFraction") hfn KX G ?nc10 ?lc10 ?bc10 ?sc10 ?oc10 ?ic10 ?kc10 ?ec10 ?vc10 ?tc10 ?uc10 ?pc10 ?gc10 ?hc10 ?dc10 ?ac10 ?fc10 ?wc10 ?mc10 ?qc10
        (case nc10 => k_is); (case lc10 => k_is); (case bc10 => first | rfl | decide +kernel); (case sc10 => k_is); (case oc10 => k_is); (case ic10 => k_is); (case kc10 => k_is); (case ec10 => k_is); (case vc10 => k_is); (case tc10 => k_is); (case uc10 => k_is); (case pc10 => ks_is); (case gc10 => k_is); (case hc10 => k_is); (case dc10 => k_is); (case ac10 => k_is); (case fc10 => k_is); (case wc10 => k_is); (case mc10 => k_is); (case qc10 => first | rfl | decide +kernel)
      case p11 =>
        dsimp only
        refine' DL.clsE_mk (x := "BadGroup") hfn KX G ?nc11 ?lc11 ?bc11 ?sc11 ?oc11 ?ic11 ?kc11 ?ec11 ?vc11 ?tc11 ?uc11 ?pc11 ?gc11 ?hc11 ?dc11 ?ac11 ?fc11 ?wc11 ?mc11 ?qc11
        (case nc11 => k_is); (case lc11 => k_is); (case bc11 => first | rfl | decide +kernel); (case sc11 => k_is); (case oc11 => k_is); (case ic11 => k_is); (case kc11 => k_is); (case ec11 => k_is); (case vc11 => k_is); (case tc11 => k_is); (case uc11 => k_is); (case pc11 => ks_is); (case gc11 => k_is); (case hc11 => k_is); (case dc11 => k_is); (case ac11 => k_is); (case fc11 => k_is); (case wc11 => k_is); (case mc11 => k_is); (case qc11 => first | rfl | decide +kernel)
      case p12 =>
        dsimp only
        refine' DL.clsE_mk (x := "BadItem") hfn KX G ?nc12 ?lc12 ?bc12 ?sc12 ?oc12 ?ic12 ?kc12 ?ec12 ?vc12 ?tc12 ?uc12 ?pc12 ?gc12 ?hc12 ?dc12 ?ac12 ?fc12 ?wc12 ?mc12 ?qc12
        (case nc12 => k_is); (case lc12 => k_is); (case bc12 => first | rfl | decide +kernel); (case sc12 => k_is); (case oc12 => k_is); (case ic12 => k_is); (case kc12 => k_is); (case ec12 => k_is); (case vc12 => k_is); (case tc12 => k_is); (case uc12 => k_is); (case pc12 => ks_is); (case gc12 => k_is); (case hc12 => k_is); (case dc12 => k_is); (case ac12 => k_is); (case fc12 => k_is); (case wc12 => k_is); (case mc12 => k_is); (case qc12 => first | rfl | decide +kernel)
      case p13 =>
        dsimp only
        refine' DL.clsE_mk (x := "BadLaw") hfn KX G ?nc13 ?lc13 ?bc13 ?sc13 ?oc13 ?ic13 ?kc13 ?ec13 ?vc13 ?tc13 ?uc13 ?pc13 ?gc13 ?hc13 ?dc13 ?ac13 ?fc13 ?wc13 ?mc13 ?qc13
        (case nc13 => k_is); (case lc13 => k_is); (case bc13 => first | rfl | decide +kernel); (case sc13 => k_is); (case oc13 => k_is); (case ic13 => k_is); (case kc13 => k_is); (case ec13 => k_is); (case vc13 => k_is); (case tc13 => k_is); (case uc13 => k_is); (case pc13 => ks_is); (case gc13 => k_is); (case hc13 => k_is); (case dc13 => k_is); (case ac13 => k_is); (case fc13 => k_is); (case wc13 => k_is); (case mc13 => k_is); (case qc13 => first | rfl | decide +kernel)
      case p14 =>
        dsimp only
        refine' DL.clsE_mk (x := "BadLink") hfn KX G ?nc14 ?lc14 ?bc14 ?sc14 ?oc14 ?ic14 ?kc14 ?ec14 ?vc14 ?tc14 ?uc14 ?pc14 ?gc14 ?hc14 ?dc14 ?ac14 ?fc14 ?wc14 ?mc14 ?qc14
        (case nc14 => k_is); (case lc14 => k_is); (case bc14 => first | rfl | decide +kernel); (case sc14 => k_is); (case oc14 => k_is); (case ic14 => k_is); (case kc14 => k_is); (case ec14 => k_is); (case vc14 => k_is); (case tc14 => k_is); (case uc14 => k_is); (case pc14 => ks_is); (case gc14 => k_is); (case hc14 => k_is); (case dc14 => k_is); (case ac14 => k_is); (case fc14 => k_is); (case wc14 => k_is); (case mc14 => k_is); (case qc14 => first | rfl | decide +kernel)
      case p15 =>
        dsimp only
        refine' DL.clsE_mk (x := "BadMemory") hfn KX G ?nc15 ?lc15 ?bc15 ?sc15 ?oc15 ?ic15 ?kc15 ?ec15 ?vc15 ?tc15 ?uc15 ?pc15 ?gc15 ?hc15 ?dc15 ?ac15 ?fc15 ?wc15 ?mc15 ?qc15
        (case nc15 => k_is); (case lc15 => k_is); (case bc15 => first | rfl | decide +kernel); (case sc15 => k_is); (case oc15 => k_is); (case ic15 => k_is); (case kc15 => k_is); (case ec15 => k_is); (case vc15 => k_is); (case tc15 => k_is); (case uc15 => k_is); (case pc15 => ks_is); (case gc15 => k_is); (case hc15 => k_is); (case dc15 => k_is); (case ac15 => k_is); (case fc15 => k_is); (case wc15 => k_is); (case mc15 => k_is); (case qc15 => first | rfl | decide +kernel)
      case p16 =>
        dsimp only
        refine' DL.clsE_mk (x := "BadNeed") hfn KX G ?nc16 ?lc16 ?bc16 ?sc16 ?oc16 ?ic16 ?kc16 ?ec16 ?vc16 ?tc16 ?uc16 ?pc16 ?gc16 ?hc16 ?dc16 ?ac16 ?fc16 ?wc16 ?mc16 ?qc16
        (case nc16 => k_is); (case lc16 => k_is); (case bc16 => first | rfl | decide +kernel); (case sc16 => k_is); (case oc16 => k_is); (case ic16 => k_is); (case kc16 => k_is); (case ec16 => k_is); (case vc16 => k_is); (case tc16 => k_is); (case uc16 => k_is); (case pc16 => ks_is); (case gc16 => k_is); (case hc16 => k_is); (case dc16 => k_is); (case ac16 => k_is); (case fc16 => k_is); (case wc16 => k_is); (case mc16 => k_is); (case qc16 => first | rfl | decide +kernel)
      case p17 =>
        dsimp only
        refine' DL.clsE_mk (x := "BadNoise") hfn KX G ?nc17 ?lc17 ?bc17 ?sc17 ?oc17 ?ic17 ?kc17 ?ec17 ?vc17 ?tc17 ?uc17 ?pc17 ?gc17 ?hc17 ?dc17 ?ac17 ?fc17 ?wc17 ?mc17 ?qc17
        (case nc17 => k_is); (case lc17 => k_is); (case bc17 => first | rfl | decide +kernel); (case sc17 => k_is); (case oc17 => k_is); (case ic17 => k_is); (case kc17 => k_is); (case ec17 => k_is); (case vc17 => k_is); (case tc17 => k_is); (case uc17 => k_is); (case pc17 => ks_is); (case gc17 => k_is); (case hc17 => k_is); (case dc17 => k_is); (case ac17 => k_is); (case fc17 => k_is); (case wc17 => k_is); (case mc17 => k_is); (case qc17 => first | rfl | decide +kernel)
      case p18 =>
        dsimp only
        refine' DL.clsE_mk (x := "BadOffer") hfn KX G ?nc18 ?lc18 ?bc18 ?sc18 ?oc18 ?ic18 ?kc18 ?ec18 ?vc18 ?tc18 ?uc18 ?pc18 ?gc18 ?hc18 ?dc18 ?ac18 ?fc18 ?wc18 ?mc18 ?qc18
        (case nc18 => k_is); (case lc18 => k_is); (case bc18 => first | rfl | decide +kernel); (case sc18 => k_is); (case oc18 => k_is); (case ic18 => k_is); (case kc18 => k_is); (case ec18 => k_is); (case vc18 => k_is); (case tc18 => k_is); (case uc18 => k_is); (case pc18 => ks_is); (case gc18 => k_is); (case hc18 => k_is); (case dc18 => k_is); (case ac18 => k_is); (case fc18 => k_is); (case wc18 => k_is); (case mc18 => k_is); (case qc18 => first | rfl | decide +kernel)
      case p19 =>
        dsimp only
        refine' DL.clsE_mk (x := "BadPath") hfn KX G ?nc19 ?lc19 ?bc19 ?sc19 ?oc19 ?ic19 ?kc19 ?ec19 ?vc19 ?tc19 ?uc19 ?pc19 ?gc19 ?hc19 ?dc19 ?ac19 ?fc19 ?wc19 ?mc19 ?qc19
        (case nc19 => k_is); (case lc19 => k_is); (case bc19 => first | rfl | decide +kernel); (case sc19 => k_is); (case oc19 => k_is); (case ic19 => k_is); (case kc19 => k_is); (case ec19 => k_is); (case vc19 => k_is); (case tc19 => k_is); (case uc19 => k_is); (case pc19 => ks_is); (case gc19 => k_is); (case hc19 => k_is); (case dc19 => k_is); (case ac19 => k_is); (case fc19 => k_is); (case wc19 => k_is); (case mc19 => k_is); (case qc19 => first | rfl | decide +kernel)
      case p20 =>
        dsimp only
        refine' DL.clsE_mk (x := "BadPattern") hfn KX G ?nc20 ?lc20 ?bc20 ?sc20 ?oc20 ?ic20 ?kc20 ?ec20 ?vc20 ?tc20 ?uc20 ?pc20 ?gc20 ?hc20 ?dc20 ?ac20 ?fc20 ?wc20 ?mc20 ?qc20
        (case nc20 => k_is); (case lc20 => k_is); (case bc20 => first | rfl | decide +kernel); (case sc20 => k_is); (case oc20 => k_is); (case ic20 => k_is); (case kc20 => k_is); (case ec20 => k_is); (case vc20 => k_is); (case tc20 => k_is); (case uc20 => k_is); (case pc20 => ks_is); (case gc20 => k_is); (case hc20 => k_is); (case dc20 => k_is); (case ac20 => k_is); (case fc20 => k_is); (case wc20 => k_is); (case mc20 => k_is); (case qc20 => first | rfl | decide +kernel)
      case p21 =>
        dsimp only
        refine' DL.clsE_mk (x := "BadPlan") hfn KX G ?nc21 ?lc21 ?bc21 ?sc21 ?oc21 ?ic21 ?kc21 ?ec21 ?vc21 ?tc21 ?uc21 ?pc21 ?gc21 ?hc21 ?dc21 ?ac21 ?fc21 ?wc21 ?mc21 ?qc21
        (case nc21 => k_is); (case lc21 => k_is); (case bc21 => first | rfl | decide +kernel); (case sc21 => k_is); (case oc21 => k_is); (case ic21 => k_is); (case kc21 => k_is); (case ec21 => k_is); (case vc21 => k_is); (case tc21 => k_is); (case uc21 => k_is); (case pc21 => ks_is); (case gc21 => k_is); (case hc21 => k_is); (case dc21 => k_is); (case ac21 => k_is); (case fc21 => k_is); (case wc21 => k_is); (case mc21 => k_is); (case qc21 => first | rfl | decide +kernel)
      case p22 =>
        dsimp only
        refine' DL.clsE_mk (x := "BadPrice") hfn KX G ?nc22 ?lc22 ?bc22 ?sc22 ?oc22 ?ic22 ?kc22 ?ec22 ?vc22 ?tc22 ?uc22 ?pc22 ?gc22 ?hc22 ?dc22 ?ac22 ?fc22 ?wc22 ?mc22 ?qc22
        (case nc22 => k_is); (case lc22 => k_is); (case bc22 => first | rfl | decide +kernel); (case sc22 => k_is); (case oc22 => k_is); (case ic22 => k_is); (case kc22 => k_is); (case ec22 => k_is); (case vc22 => k_is); (case tc22 => k_is); (case uc22 => k_is); (case pc22 => ks_is); (case gc22 => k_is); (case hc22 => k_is); (case dc22 => k_is); (case ac22 => k_is); (case fc22 => k_is); (case wc22 => k_is); (case mc22 => k_is); (case qc22 => first | rfl | decide +kernel)
      case p23 =>
        dsimp only
        refine' DL.clsE_mk (x := "BadPupil") hfn KX G ?nc23 ?lc23 ?bc23 ?sc23 ?oc23 ?ic23 ?kc23 ?ec23 ?vc23 ?tc23 ?uc23 ?pc23 ?gc23 ?hc23 ?dc23 ?ac23 ?fc23 ?wc23 ?mc23 ?qc23
        (case nc23 => k_is); (case lc23 => k_is); (case bc23 => first | rfl | decide +kernel); (case sc23 => k_is); (case oc23 => k_is); (case ic23 => k_is); (case kc23 => k_is); (case ec23 => k_is); (case vc23 => k_is); (case tc23 => k_is); (case uc23 => k_is); (case pc23 => ks_is); (case gc23 => k_is); (case hc23 => k_is); (case dc23 => k_is); (case ac23 => k_is); (case fc23 => k_is); (case wc23 => k_is); (case mc23 => k_is); (case qc23 => first | rfl | decide +kernel)
      case p24 =>
        dsimp only
        refine' DL.clsE_mk (x := "BadRating") hfn KX G ?nc24 ?lc24 ?bc24 ?sc24 ?oc24 ?ic24 ?kc24 ?ec24 ?vc24 ?tc24 ?uc24 ?pc24 ?gc24 ?hc24 ?dc24 ?ac24 ?fc24 ?wc24 ?mc24 ?qc24
        (case nc24 => k_is); (case lc24 => k_is); (case bc24 => first | rfl | decide +kernel); (case sc24 => k_is); (case oc24 => k_is); (case ic24 => k_is); (case kc24 => k_is); (case ec24 => k_is); (case vc24 => k_is); (case tc24 => k_is); (case uc24 => k_is); (case pc24 => ks_is); (case gc24 => k_is); (case hc24 => k_is); (case dc24 => k_is); (case ac24 => k_is); (case fc24 => k_is); (case wc24 => k_is); (case mc24 => k_is); (case qc24 => first | rfl | decide +kernel)
      case p25 =>
        dsimp only
        refine' DL.clsE_mk (x := "BadRoom") hfn KX G ?nc25 ?lc25 ?bc25 ?sc25 ?oc25 ?ic25 ?kc25 ?ec25 ?vc25 ?tc25 ?uc25 ?pc25 ?gc25 ?hc25 ?dc25 ?ac25 ?fc25 ?wc25 ?mc25 ?qc25
        (case nc25 => k_is); (case lc25 => k_is); (case bc25 => first | rfl | decide +kernel); (case sc25 => k_is); (case oc25 => k_is); (case ic25 => k_is); (case kc25 => k_is); (case ec25 => k_is); (case vc25 => k_is); (case tc25 => k_is); (case uc25 => k_is); (case pc25 => ks_is); (case gc25 => k_is); (case hc25 => k_is); (case dc25 => k_is); (case ac25 => k_is); (case fc25 => k_is); (case wc25 => k_is); (case mc25 => k_is); (case qc25 => first | rfl | decide +kernel)
      case p26 =>
        dsimp only
        refine' DL.clsE_mk (x := "BadRow") hfn KX G ?nc26 ?lc26 ?bc26 ?sc26 ?oc26 ?ic26 ?kc26 ?ec26 ?vc26 ?tc26 ?uc26 ?pc26 ?gc26 ?hc26 ?dc26 ?ac26 ?fc26 ?wc26 ?mc26 ?qc26
        (case nc26 => k_is); (case lc26 => k_is); (case bc26 => first | rfl | decide +kernel); (case sc26 => k_is); (case oc26 => k_is); (case ic26 => k_is); (case kc26 => k_is); (case ec26 => k_is); (case vc26 => k_is); (case tc26 => k_is); (case uc26 => k_is); (case pc26 => ks_is); (case gc26 => k_is); (case hc26 => k_is); (case dc26 => k_is); (case ac26 => k_is); (case fc26 => k_is); (case wc26 => k_is); (case mc26 => k_is); (case qc26 => first | rfl | decide +kernel)
      case p27 =>
        dsimp only
        refine' DL.clsE_mk (x := "BadSide") hfn KX G ?nc27 ?lc27 ?bc27 ?sc27 ?oc27 ?ic27 ?kc27 ?ec27 ?vc27 ?tc27 ?uc27 ?pc27 ?gc27 ?hc27 ?dc27 ?ac27 ?fc27 ?wc27 ?mc27 ?qc27
        (case nc27 => k_is); (case lc27 => k_is); (case bc27 => first | rfl | decide +kernel); (case sc27 => k_is); (case oc27 => k_is); (case ic27 => k_is); (case kc27 => k_is); (case ec27 => k_is); (case vc27 => k_is); (case tc27 => k_is); (case uc27 => k_is); (case pc27 => ks_is); (case gc27 => k_is); (case hc27 => k_is); (case dc27 => k_is); (case ac27 => k_is); (case fc27 => k_is); (case wc27 => k_is); (case mc27 => k_is); (case qc27 => first | rfl | decide +kernel)
      case p28 =>
        dsimp only
        refine' DL.clsE_mk (x := "BadSign") hfn KX G ?nc28 ?lc28 ?bc28 ?sc28 ?oc28 ?ic28 ?kc28 ?ec28 ?vc28 ?tc28 ?uc28 ?pc28 ?gc28 ?hc28 ?dc28 ?ac28 ?fc28 ?wc28 ?mc28 ?qc28
        (case nc28 => k_is); (case lc28 => k_is); (case bc28 => first | rfl | decide +kernel); (case sc28 => k_is); (case oc28 => k_is); (case ic28 => k_is); (case kc28 => k_is); (case ec28 => k_is); (case vc28 => k_is); (case tc28 => k_is); (case uc28 => k_is); (case pc28 => ks_is); (case gc28 => k_is); (case hc28 => k_is); (case dc28 => k_is); (case ac28 => k_is); (case fc28 => k_is); (case wc28 => k_is); (case mc28 => k_is); (case qc28 => first | rfl | decide +kernel)
      case p29 =>
        dsimp only
        refine' DL.clsE_mk (x := "BadState") hfn KX G ?nc29 ?lc29 ?bc29 ?sc29 ?oc29 ?ic29 ?kc29 ?ec29 ?vc29 ?tc29 ?uc29 ?pc29 ?gc29 ?hc29 ?dc29 ?ac29 ?fc29 ?wc29 ?mc29 ?qc29
        (case nc29 => k_is); (case lc29 => k_is); (case bc29 => first | rfl | decide +kernel); (case sc29 => k_is); (case oc29 => k_is); (case ic29 => k_is); (case kc29 => k_is); (case ec29 => k_is); (case vc29 => k_is); (case tc29 => k_is); (case uc29 => k_is); (case pc29 => ks_is); (case gc29 => k_is); (case hc29 => k_is); (case dc29 => k_is); (case ac29 => k_is); (case fc29 => k_is); (case wc29 => k_is); (case mc29 => k_is); (case qc29 => first | rfl | decide +kernel)
      case p30 =>
        dsimp only
        refine' DL.clsE_mk (x := "BadSum") hfn KX G ?nc30 ?lc30 ?bc30 ?sc30 ?oc30 ?ic30 ?kc30 ?ec30 ?vc30 ?tc30 ?uc30 ?pc30 ?gc30 ?hc30 ?dc30 ?ac30 ?fc30 ?wc30 ?mc30 ?qc30
        (case nc30 => k_is); (case lc30 => k_is); (case bc30 => first | rfl | decide +kernel); (case sc30 => k_is); (case oc30 => k_is); (case ic30 => k_is); (case kc30 => k_is); (case ec30 => k_is); (case vc30 => k_is); (case tc30 => k_is); (case uc30 => k_is); (case pc30 => ks_is); (case gc30 => k_is); (case hc30 => k_is); (case dc30 => k_is); (case ac30 => k_is); (case fc30 => k_is); (case wc30 => k_is); (case mc30 => k_is); (case qc30 => first | rfl | decide +kernel)
      case p31 =>
        dsimp only
        refine' DL.clsE_mk (x := "BadTest") hfn KX G ?nc31 ?lc31 ?bc31 ?sc31 ?oc31 ?ic31 ?kc31 ?ec31 ?vc31 ?tc31 ?uc31 ?pc31 ?gc31 ?hc31 ?dc31 ?ac31 ?fc31 ?wc31 ?mc31 ?qc31
        (case nc31 => k_is); (case lc31 => k_is); (case bc31 => first | rfl | decide +kernel); (case sc31 => k_is); (case oc31 => k_is); (case ic31 => k_is); (case kc31 => k_is); (case ec31 => k_is); (case vc31 => k_is); (case tc31 => k_is); (case uc31 => k_is); (case pc31 => ks_is); (case gc31 => k_is); (case hc31 => k_is); (case dc31 => k_is); (case ac31 => k_is); (case fc31 => k_is); (case wc31 => k_is); (case mc31 => k_is); (case qc31 => first | rfl | decide +kernel)
      case p32 =>
        dsimp only
        refine' DL.clsE_mk (x := "BadTop") hfn KX G ?nc32 ?lc32 ?bc32 ?sc32 ?oc32 ?ic32 ?kc32 ?ec32 ?vc32 ?tc32 ?uc32 ?pc32 ?gc32 ?hc32 ?dc32 ?ac32 ?fc32 ?wc32 ?mc32 ?qc32
        (case nc32 => k_is); (case lc32 => k_is); (case bc32 => first | rfl | decide +kernel); (case sc32 => k_is); (case oc32 => k_is); (case ic32 => k_is); (case kc32 => k_is); (case ec32 => k_is); (case vc32 => k_is); (case tc32 => k_is); (case uc32 => k_is); (case pc32 => ks_is); (case gc32 => k_is); (case hc32 => k_is); (case dc32 => k_is); (case ac32 => k_is); (case fc32 => k_is); (case wc32 => k_is); (case mc32 => k_is); (case qc32 => first | rfl | decide +kernel)
      case p33 =>
        dsimp only
        refine' DL.clsE_mk (x := "BadVotes") hfn KX G ?nc33 ?lc33 ?bc33 ?sc33 ?oc33 ?ic33 ?kc33 ?ec33 ?vc33 ?tc33 ?uc33 ?pc33 ?gc33 ?hc33 ?dc33 ?ac33 ?fc33 ?wc33 ?mc33 ?qc33
        (case nc33 => k_is); (case lc33 => k_is); (case bc33 => first | rfl | decide +kernel); (case sc33 => k_is); (case oc33 => k_is); (case ic33 => k_is); (case kc33 => k_is); (case ec33 => k_is); (case vc33 => k_is); (case tc33 => k_is); (case uc33 => k_is); (case pc33 => ks_is); (case gc33 => k_is); (case hc33 => k_is); (case dc33 => k_is); (case ac33 => k_is); (case fc33 => k_is); (case wc33 => k_is); (case mc33 => k_is); (case qc33 => first | rfl | decide +kernel)
      case p34 =>
        dsimp only
        refine' DL.clsE_mk (x := "HallError") hfn KX G ?nc34 ?lc34 ?bc34 ?sc34 ?oc34 ?ic34 ?kc34 ?ec34 ?vc34 ?tc34 ?uc34 ?pc34 ?gc34 ?hc34 ?dc34 ?ac34 ?fc34 ?wc34 ?mc34 ?qc34
        (case nc34 => k_is); (case lc34 => k_is); (case bc34 => first | rfl | decide +kernel); (case sc34 => k_is); (case oc34 => k_is); (case ic34 => k_is); (case kc34 => k_is); (case ec34 => k_is); (case vc34 => k_is); (case tc34 => k_is); (case uc34 => k_is); (case pc34 => ks_is); (case gc34 => k_is); (case hc34 => k_is); (case dc34 => k_is); (case ac34 => k_is); (case fc34 => k_is); (case wc34 => k_is); (case mc34 => k_is); (case qc34 => first | rfl | decide +kernel)
      case p35 =>
        dsimp only
        refine' DL.clsE_mk (x := "NotASet") hfn KX G ?nc35 ?lc35 ?bc35 ?sc35 ?oc35 ?ic35 ?kc35 ?ec35 ?vc35 ?tc35 ?uc35 ?pc35 ?gc35 ?hc35 ?dc35 ?ac35 ?fc35 ?wc35 ?mc35 ?qc35
        (case nc35 => k_is); (case lc35 => k_is); (case bc35 => first | rfl | decide +kernel); (case sc35 => k_is); (case oc35 => k_is); (case ic35 => k_is); (case kc35 => k_is); (case ec35 => k_is); (case vc35 => k_is); (case tc35 => k_is); (case uc35 => k_is); (case pc35 => ks_is); (case gc35 => k_is); (case hc35 => k_is); (case dc35 => k_is); (case ac35 => k_is); (case fc35 => k_is); (case wc35 => k_is); (case mc35 => k_is); (case qc35 => first | rfl | decide +kernel)
      case p36 =>
        dsimp only
        refine' DL.clsE_mk (x := "NotFull") hfn KX G ?nc36 ?lc36 ?bc36 ?sc36 ?oc36 ?ic36 ?kc36 ?ec36 ?vc36 ?tc36 ?uc36 ?pc36 ?gc36 ?hc36 ?dc36 ?ac36 ?fc36 ?wc36 ?mc36 ?qc36
        (case nc36 => k_is); (case lc36 => k_is); (case bc36 => first | rfl | decide +kernel); (case sc36 => k_is); (case oc36 => k_is); (case ic36 => k_is); (case kc36 => k_is); (case ec36 => k_is); (case vc36 => k_is); (case tc36 => k_is); (case uc36 => k_is); (case pc36 => ks_is); (case gc36 => k_is); (case hc36 => k_is); (case dc36 => k_is); (case ac36 => k_is); (case fc36 => k_is); (case wc36 => k_is); (case mc36 => k_is); (case qc36 => first | rfl | decide +kernel)
      case p37 =>
        dsimp only
        refine' DL.clsE_mk (x := "OutOfRange") hfn KX G ?nc37 ?lc37 ?bc37 ?sc37 ?oc37 ?ic37 ?kc37 ?ec37 ?vc37 ?tc37 ?uc37 ?pc37 ?gc37 ?hc37 ?dc37 ?ac37 ?fc37 ?wc37 ?mc37 ?qc37
        (case nc37 => k_is); (case lc37 => k_is); (case bc37 => first | rfl | decide +kernel); (case sc37 => k_is); (case oc37 => k_is); (case ic37 => k_is); (case kc37 => k_is); (case ec37 => k_is); (case vc37 => k_is); (case tc37 => k_is); (case uc37 => k_is); (case pc37 => ks_is); (case gc37 => k_is); (case hc37 => k_is); (case dc37 => k_is); (case ac37 => k_is); (case fc37 => k_is); (case wc37 => k_is); (case mc37 => k_is); (case qc37 => first | rfl | decide +kernel)
      case p38 =>
        dsimp only
        refine' DL.clsE_mk (x := "TooMany") hfn KX G ?nc38 ?lc38 ?bc38 ?sc38 ?oc38 ?ic38 ?kc38 ?ec38 ?vc38 ?tc38 ?uc38 ?pc38 ?gc38 ?hc38 ?dc38 ?ac38 ?fc38 ?wc38 ?mc38 ?qc38
        (case nc38 => k_is); (case lc38 => k_is); (case bc38 => first | rfl | decide +kernel); (case sc38 => k_is); (case oc38 => k_is); (case ic38 => k_is); (case kc38 => k_is); (case ec38 => k_is); (case vc38 => k_is); (case tc38 => k_is); (case uc38 => k_is); (case pc38 => ks_is); (case gc38 => k_is); (case hc38 => k_is); (case dc38 => k_is); (case ac38 => k_is); (case fc38 => k_is); (case wc38 => k_is); (case mc38 => k_is); (case qc38 => first | rfl | decide +kernel)
      case p39 =>
        dsimp only
        refine' DL.clsE_mk (x := "Unlike") hfn KX G ?nc39 ?lc39 ?bc39 ?sc39 ?oc39 ?ic39 ?kc39 ?ec39 ?vc39 ?tc39 ?uc39 ?pc39 ?gc39 ?hc39 ?dc39 ?ac39 ?fc39 ?wc39 ?mc39 ?qc39
        (case nc39 => k_is); (case lc39 => k_is); (case bc39 => first | rfl | decide +kernel); (case sc39 => k_is); (case oc39 => k_is); (case ic39 => k_is); (case kc39 => k_is); (case ec39 => k_is); (case vc39 => k_is); (case tc39 => k_is); (case uc39 => k_is); (case pc39 => ks_is); (case gc39 => k_is); (case hc39 => k_is); (case dc39 => k_is); (case ac39 => k_is); (case fc39 => k_is); (case wc39 => k_is); (case mc39 => k_is); (case qc39 => first | rfl | decide +kernel)
      case p40 =>
        dsimp only
        refine' DL.clsE_mk (x := "WrongSize") hfn KX G ?nc40 ?lc40 ?bc40 ?sc40 ?oc40 ?ic40 ?kc40 ?ec40 ?vc40 ?tc40 ?uc40 ?pc40 ?gc40 ?hc40 ?dc40 ?ac40 ?fc40 ?wc40 ?mc40 ?qc40
        (case nc40 => k_is); (case lc40 => k_is); (case bc40 => first | rfl | decide +kernel); (case sc40 => k_is); (case oc40 => k_is); (case ic40 => k_is); (case kc40 => k_is); (case ec40 => k_is); (case vc40 => k_is); (case tc40 => k_is); (case uc40 => k_is); (case pc40 => ks_is); (case gc40 => k_is); (case hc40 => k_is); (case dc40 => k_is); (case ac40 => k_is); (case fc40 => k_is); (case wc40 => k_is); (case mc40 => k_is); (case qc40 => first | rfl | decide +kernel)
      case dec => decide +kernel
    intro cl hall
    refine' DL.with_def (x := "_law_draws") (st := s__law_draws) (ps := p__law_draws) KX G ?n0 ?l0 ?c0 ?k0 (fun _ _ _ _ _ _ us hl => match us, hl with | [_], _ => rfl) ?r0
    (case n0 => k_is); (case l0 => k_is); (case c0 => k_is); (case k0 => k_is)
    intro d__law_draws
    refine' DL.with_def (x := "_law_made") (st := s__law_made) (ps := p__law_made) KX G ?n1 ?l1 ?c1 ?k1 (fun _ _ _ _ _ _ us hl => match us, hl with | [_], _ => rfl) ?r1
    (case n1 => k_is); (case l1 => k_is); (case c1 => k_is); (case k1 => k_is)
    intro d__law_made
    refine' DL.with_def (x := "is_row") (st := s_is_row) (ps := p_is_row) KX G ?n2 ?l2 ?c2 ?k2 (fun _ _ _ _ _ _ us hl => match us, hl with | [_, _], _ => rfl) ?r2
    (case n2 => k_is); (case l2 => k_is); (case c2 => k_is); (case k2 => k_is)
    intro d_is_row
    refine' DL.with_def (x := "check_sheet") (st := s_check_sheet) (ps := p_check_sheet) KX G ?n3 ?l3 ?c3 ?k3 (fun _ _ _ _ _ _ us hl => match us, hl with | [_], _ => rfl) ?r3
    (case n3 => k_is); (case l3 => k_is); (case c3 => k_is); (case k3 => k_is)
    intro d_check_sheet
    refine' DL.with_def (x := "_law_raised") (st := s__law_raised) (ps := p__law_raised) KX G ?n4 ?l4 ?c4 ?k4 (fun _ _ _ _ _ _ us hl => match us, hl with | [_], _ => rfl) ?r4
    (case n4 => k_is); (case l4 => k_is); (case c4 => k_is); (case k4 => k_is)
    intro d__law_raised
    refine' DL.with_def (x := "_law_mix") (st := s__law_mix) (ps := p__law_mix) KX G ?n5 ?l5 ?c5 ?k5 (fun _ _ _ _ _ _ us hl => match us, hl with | [_, _, _], _ => rfl) ?r5
    (case n5 => k_is); (case l5 => k_is); (case c5 => k_is); (case k5 => k_is)
    intro d__law_mix
    refine' DL.with_def (x := "_law_kinds") (st := s__law_kinds) (ps := p__law_kinds) KX G ?n6 ?l6 ?c6 ?k6 (fun _ _ _ _ _ _ us hl => match us, hl with | [_], _ => rfl) ?r6
    (case n6 => k_is); (case l6 => k_is); (case c6 => k_is); (case k6 => k_is)
    intro d__law_kinds
    refine' DL.with_def (x := "law") (st := s_law) (ps := p_law) KX G ?n7 ?l7 ?c7 ?k7 (fun _ _ _ _ _ _ us hl => match us, hl with | [_], _ => rfl) ?r7
    (case n7 => k_is); (case l7 => k_is); (case c7 => k_is); (case k7 => k_is)
    intro d_law
    have z_ValueError : mg "ValueError" = none := PySem.W.mg_none_of KX G (by k_is)
    have z_abs : mg "abs" = none := PySem.W.mg_none_of KX G (by k_is)
    have z_all : mg "all" = none := PySem.W.mg_none_of KX G (by k_is)
    have z_bool : mg "bool" = none := PySem.W.mg_none_of KX G (by k_is)
    have z_enumerate : mg "enumerate" = none := PySem.W.mg_none_of KX G (by k_is)
    have z_int : mg "int" = none := PySem.W.mg_none_of KX G (by k_is)
    have z_isinstance : mg "isinstance" = none := PySem.W.mg_none_of KX G (by k_is)
    have z_len : mg "len" = none := PySem.W.mg_none_of KX G (by k_is)
    have z_min : mg "min" = none := PySem.W.mg_none_of KX G (by k_is)
    have z_range : mg "range" = none := PySem.W.mg_none_of KX G (by k_is)
    have g_MOST_ITEMS : ∃ u, mg "MOST_ITEMS" = some u ∧ L2.RelV (.int (10)) u := by refine' DL.int_mk KX G ?nMOST_ITEMS ?mMOST_ITEMS; (case nMOST_ITEMS => k_is); exact ⟨_, rfl⟩
    have g_MOST_PUPILS : ∃ u, mg "MOST_PUPILS" = some u ∧ L2.RelV (.int (12)) u := by refine' DL.int_mk KX G ?nMOST_PUPILS ?mMOST_PUPILS; (case nMOST_PUPILS => k_is); exact ⟨_, rfl⟩
    refine ⟨TX, cl, rfl, DL.prog_mk (T := TX) (mg := mg) ?d ⟨z_ValueError, z_abs, z_all, z_bool, z_enumerate, z_int, z_isinstance, z_len, z_min, z_range, trivial⟩ (fun z => nomatch z) ⟨g_MOST_ITEMS, g_MOST_PUPILS, trivial⟩ hall⟩
    exact .cons ⟨s__law_draws, N__law_draws, p__law_draws, ok__law_draws, d__law_draws⟩ (.cons ⟨s__law_made, N__law_made, p__law_made, ok__law_made, d__law_made⟩ (.cons ⟨s_is_row, N_is_row, p_is_row, ok_is_row, d_is_row⟩ (.cons ⟨s_check_sheet, N_check_sheet, p_check_sheet, ok_check_sheet, d_check_sheet⟩ (.cons ⟨s__law_raised, N__law_raised, p__law_raised, ok__law_raised, d__law_raised⟩ (.cons ⟨s__law_mix, N__law_mix, p__law_mix, ok__law_mix, d__law_mix⟩ (.cons ⟨s__law_kinds, N__law_kinds, p__law_kinds, ok__law_kinds, d__law_kinds⟩ (.cons ⟨s_law, N_law, p_law, ok_law, d_law⟩ (.nil))))))))
