import PyProof.Rows.All
import Wide.All
import OpenK.AllK
import Wide.FinOn
import HandS.ForSpec
import HandS.ForMost
import HandS.Conv
import HandS.TupAny
import HandS.TupLe
import HandS.Style
import HandS.Flow
import HandS.Deep
import HandS.IsInst
import HandS.CallSlots
import HandS.WordsExc
import HandS.WordsList
import HandS.ExcInit
import HandS.SortOrd
import HandS.SortKw
import HandS.StrMore
import PySem.Challenge.RW_greedycuts_k78_whole_smallest_changes
set_option Elab.async false
set_option linter.all false
set_option maxHeartbeats 4000000
set_option maxRecDepth 100000

namespace G
open PySem L2

/-- data: values with their content. A list or dict bears a mark: owned by its holder alone (true), or fixed for ever (false) -/
inductive DK where
  | int (i : Int) | str (l : List Nat) | tup (ks : List (Sum Int (List Nat)))
  deriving DecidableEq

inductive D where
  | non | bl (b : Bool) | int (i : Int) | str (l : List Nat)
  | tup (xs : List D) | lst (o : Bool) (xs : List D) | dic (o : Bool) (ks : List DK) (vs : List D)
  | obj (n : Nat) | exc (c : String) (fs : List D)

abbrev sOf (l : List Nat) : Str := ⟨l.toArray⟩
/-- a text of a size that the machine holds, of code points -/
def okS (l : List Nat) : Bool := decide (l.length ≤ 16777216) && l.all (fun c => decide (c < 1114112))
def kOf1 : Sum Int (List Nat) → Key
  | .inl i => .inl i
  | .inr l => .inr (sOf l)
def simpleK : List DK → List V → Option (List (Key × V))
  | [], [] => some []
  | .int i :: ks, v :: vs => (simpleK ks vs).map ((Sum.inl i, v) :: ·)
  | .str l :: ks, v :: vs => (simpleK ks vs).map ((Sum.inr (sOf l), v) :: ·)
  | _, _ => none
def tupK : List DK → List V → Option (List (List Key × V))
  | [], [] => some []
  | .tup l :: ks, v :: vs => (tupK ks vs).map ((l.map kOf1, v) :: ·)
  | _, _ => none
def DicAt (H : Hp) (a : Addr) (ks : List DK) (vs : List V) : Prop :=
  (∃ kvs, simpleK ks vs = some kvs ∧ H a = some (.dK kvs)) ∨ (∃ kvs, tupK ks vs = some kvs ∧ H a = some (.dT kvs))

/-- the fixed world: its part of the heap, the addresses of the store's objects -/
structure Wd where
  F : Hp
  oas : List Addr

/-- parameters of the relation: exceptions held by a suite -/
structure Par where
  K : PySem.W.Frag
  cl : String → Addr
  xc : Addr → String → List D → Prop

mutual
def Den (P : Par) (W : Wd) (H : Hp) (fp : List Addr) (v : V) : D → Prop
  | .non => v = .non ∧ fp = []
  | .bl b => v = .bl b ∧ fp = []
  | .int i => v = .int i ∧ fp = []
  | .str l => v = .str (sOf l) ∧ fp = [] ∧ okS l = true
  | .tup xs => fp = [] ∧ ∃ a vs, v = .ref a ∧ W.F a = some (.tup vs) ∧ DenL P W W.F [] vs xs
  | .lst false xs => fp = [] ∧ ∃ a vs, v = .ref a ∧ W.F a = some (.lst vs) ∧ DenL P W W.F [] vs xs
  | .lst true xs => ∃ a vs fp', v = .ref a ∧ H a = some (.lst vs) ∧ fp = a :: fp' ∧ DenL P W H fp' vs xs
  | .dic false ks xs => fp = [] ∧ ∃ a vs, v = .ref a ∧ DicAt W.F a ks vs ∧ DenL P W W.F [] vs xs
  | .dic true ks xs => ∃ a vs fp', v = .ref a ∧ DicAt H a ks vs ∧ fp = a :: fp' ∧ DenL P W H fp' vs xs
  | .obj n => fp = [] ∧ ∃ a, W.oas[n]? = some a ∧ v = .ref a
  | .exc c fs => fp = [] ∧ ∃ a, v = .ref a ∧ P.xc a c fs
def DenL (P : Par) (W : Wd) (H : Hp) (fp : List Addr) (vs : List V) : List D → Prop
  | [] => vs = [] ∧ fp = []
  | d :: ds => ∃ v vs' fp1 fp2, vs = v :: vs' ∧ fp = fp1 ++ fp2 ∧ Den P W H fp1 v d ∧ DenL P W H fp2 vs' ds
end

theorem denL_nil {P : Par} {W : Wd} {H : Hp} {fp : List Addr} {vs : List V} : DenL P W H fp vs [] ↔ vs = [] ∧ fp = [] := by simp only [DenL]
theorem denL_cons {P : Par} {W : Wd} {H : Hp} {fp : List Addr} {vs : List V} {d : D} {ds : List D} : DenL P W H fp vs (d :: ds) ↔ ∃ v vs' fp1 fp2, vs = v :: vs' ∧ fp = fp1 ++ fp2 ∧ Den P W H fp1 v d ∧ DenL P W H fp2 vs' ds := by simp only [DenL]

/-- a greater fixed world -/
structure Wd.le (W W' : Wd) : Prop where
  F : ∀ a o, W.F a = some o → W'.F a = some o
  o : ∀ (i : Nat) (a : Addr), W.oas[i]? = some a → W'.oas[i]? = some a
theorem Wd.le.refl (W : Wd) : W.le W := ⟨fun _ _ e => e, fun _ _ e => e⟩
theorem Wd.le.trans {A B C : Wd} (x : A.le B) (y : B.le C) : A.le C := ⟨fun a o e => y.F a o (x.F a o e), fun i a e => y.o i a (x.o i a e)⟩

theorem DicAt.mono {H H' : Hp} {a : Addr} {ks : List DK} {vs : List V} (k : ∀ o, H a = some o → H' a = some o) : DicAt H a ks vs → DicAt H' a ks vs
  | .inl ⟨kvs, e, h⟩ => .inl ⟨kvs, e, k _ h⟩
  | .inr ⟨kvs, e, h⟩ => .inr ⟨kvs, e, k _ h⟩

mutual
theorem Den.mono {P : Par} {W W' : Wd} {H H' : Hp} (le : W.le W') : ∀ {d : D} {fp : List Addr} {v : V}, (∀ a ∈ fp, ∀ o, H a = some o → H' a = some o) → Den P W H fp v d → Den P W' H' fp v d
  | .non, _, _, _, h => by simpa only [Den] using h
  | .bl _, _, _, _, h => by simpa only [Den] using h
  | .int _, _, _, _, h => by simpa only [Den] using h
  | .str _, _, _, _, h => by simpa only [Den] using h
  | .tup xs, _, _, _, h => by
    simp only [Den] at h ⊢
    obtain ⟨e, a, vs, ev, ha, hl⟩ := h
    exact ⟨e, a, vs, ev, le.F _ _ ha, DenL.mono le (fun _ h => by simp at h) hl⟩
  | .lst false xs, _, _, _, h => by
    simp only [Den] at h ⊢
    obtain ⟨e, a, vs, ev, ha, hl⟩ := h
    exact ⟨e, a, vs, ev, le.F _ _ ha, DenL.mono le (fun _ h => by simp at h) hl⟩
  | .lst true xs, _, _, k, h => by
    simp only [Den] at h ⊢
    obtain ⟨a, vs, fp', ev, ha, ef, hl⟩ := h
    subst ef
    exact ⟨a, vs, fp', ev, k a (by simp) _ ha, rfl, DenL.mono le (fun b hb o e => k b (List.mem_cons_of_mem _ hb) o e) hl⟩
  | .dic false ks xs, _, _, _, h => by
    simp only [Den] at h ⊢
    obtain ⟨e, a, vs, ev, ha, hl⟩ := h
    exact ⟨e, a, vs, ev, ha.mono (le.F _), DenL.mono le (fun _ h => by simp at h) hl⟩
  | .dic true ks xs, _, _, k, h => by
    simp only [Den] at h ⊢
    obtain ⟨a, vs, fp', ev, ha, ef, hl⟩ := h
    subst ef
    exact ⟨a, vs, fp', ev, ha.mono (k a (by simp)), rfl, DenL.mono le (fun b hb o e => k b (List.mem_cons_of_mem _ hb) o e) hl⟩
  | .obj _, _, _, _, h => by
    simp only [Den] at h ⊢
    obtain ⟨e, a, ha, ev⟩ := h
    exact ⟨e, a, le.o _ _ ha, ev⟩
  | .exc _ _, _, _, _, h => by simpa only [Den] using h
theorem DenL.mono {P : Par} {W W' : Wd} {H H' : Hp} (le : W.le W') : ∀ {ds : List D} {fp : List Addr} {vs : List V}, (∀ a ∈ fp, ∀ o, H a = some o → H' a = some o) → DenL P W H fp vs ds → DenL P W' H' fp vs ds
  | [], _, _, _, h => by simpa only [DenL] using h
  | d :: ds, _, _, k, h => by
    rw [denL_cons] at h ⊢
    obtain ⟨v, vs', fp1, fp2, e1, e2, h1, h2⟩ := h
    subst e2
    exact ⟨v, vs', fp1, fp2, e1, rfl, Den.mono le (fun a ha => k a (List.mem_append_left _ ha)) h1, DenL.mono le (fun a ha => k a (List.mem_append_right _ ha)) h2⟩
end

theorem DicAt.stands {H : Hp} {a : Addr} {ks : List DK} {vs : List V} : DicAt H a ks vs → ∃ o, H a = some o
  | .inl ⟨_, _, h⟩ => ⟨_, h⟩
  | .inr ⟨_, _, h⟩ => ⟨_, h⟩
/-- lists and dicts (what may change) -/
def MutO : HO → Prop
  | .lst _ => True
  | .dK _ => True
  | .dT _ => True
  | _ => False
theorem DicAt.mutO {H : Hp} {a : Addr} {ks : List DK} {vs : List V} : DicAt H a ks vs → ∃ o, H a = Option.some o ∧ MutO o
  | .inl ⟨_, _, h⟩ => ⟨_, h, trivial⟩
  | .inr ⟨_, _, h⟩ => ⟨_, h, trivial⟩
mutual
/-- what is owned stands there, a list or a dict -/
theorem Den.own {P : Par} {W : Wd} {H : Hp} : ∀ {d : D} {fp : List Addr} {v : V}, Den P W H fp v d → ∀ a ∈ fp, ∃ o, H a = some o ∧ MutO o
  | .non, _, _, h, a, ha => by simp only [Den] at h; rw [h.2] at ha; simp at ha
  | .bl _, _, _, h, a, ha => by simp only [Den] at h; rw [h.2] at ha; simp at ha
  | .int _, _, _, h, a, ha => by simp only [Den] at h; rw [h.2] at ha; simp at ha
  | .str _, _, _, h, a, ha => by simp only [Den] at h; rw [h.2.1] at ha; simp at ha
  | .tup _, _, _, h, a, ha => by simp only [Den] at h; rw [h.1] at ha; simp at ha
  | .lst false _, _, _, h, a, ha => by simp only [Den] at h; rw [h.1] at ha; simp at ha
  | .dic false _ _, _, _, h, a, ha => by simp only [Den] at h; rw [h.1] at ha; simp at ha
  | .obj _, _, _, h, a, ha => by simp only [Den] at h; rw [h.1] at ha; simp at ha
  | .exc _ _, _, _, h, a, ha => by simp only [Den] at h; rw [h.1] at ha; simp at ha
  | .lst true _, _, _, h, a, ha => by
    simp only [Den] at h
    obtain ⟨b, vs, fp', ev, hb, ef, hl⟩ := h
    subst ef
    rcases List.mem_cons.mp ha with rfl | ha
    · exact ⟨_, hb, trivial⟩
    · exact DenL.own hl a ha
  | .dic true _ _, _, _, h, a, ha => by
    simp only [Den] at h
    obtain ⟨b, vs, fp', ev, hb, ef, hl⟩ := h
    subst ef
    rcases List.mem_cons.mp ha with rfl | ha
    · exact hb.mutO
    · exact DenL.own hl a ha
theorem DenL.own {P : Par} {W : Wd} {H : Hp} : ∀ {ds : List D} {fp : List Addr} {vs : List V}, DenL P W H fp vs ds → ∀ a ∈ fp, ∃ o, H a = some o ∧ MutO o
  | [], _, _, h, a, ha => by rw [denL_nil] at h; rw [h.2] at ha; simp at ha
  | d :: ds, _, _, h, a, ha => by
    rw [denL_cons] at h
    obtain ⟨v, vs', fp1, fp2, e1, e2, h1, h2⟩ := h
    subst e2
    rcases List.mem_append.mp ha with ha | ha
    · exact Den.own h1 a ha
    · exact DenL.own h2 a ha
end
theorem Den.stands {P : Par} {W : Wd} {H : Hp} {d : D} {fp : List Addr} {v : V} (h : Den P W H fp v d) {a : Addr} (ha : a ∈ fp) : H a ≠ none := by
  obtain ⟨o, e, _⟩ := h.own a ha
  rw [e]; simp
theorem DenL.stands {P : Par} {W : Wd} {H : Hp} {ds : List D} {fp : List Addr} {vs : List V} (h : DenL P W H fp vs ds) {a : Addr} (ha : a ∈ fp) : H a ≠ none := by
  obtain ⟨o, e, _⟩ := h.own a ha
  rw [e]; simp

mutual
/-- fixed for ever -/
def frz : D → D
  | .lst true xs => .lst false (frzL xs)
  | .dic true ks xs => .dic false ks (frzL xs)
  | d => d
def frzL : List D → List D
  | [] => []
  | d :: ds => frz d :: frzL ds
end
theorem frzL_map : ∀ ds : List D, frzL ds = ds.map frz
  | [] => rfl
  | d :: ds => by rw [frzL, frzL_map ds]; rfl
@[simp] theorem frz_non : frz .non = .non := by simp only [frz]
@[simp] theorem frz_bl (b : Bool) : frz (.bl b) = .bl b := by simp only [frz]
@[simp] theorem frz_int (b : Int) : frz (.int b) = .int b := by simp only [frz]
@[simp] theorem frz_str (b : List Nat) : frz (.str b) = .str b := by simp only [frz]
@[simp] theorem frz_tup (b : List D) : frz (.tup b) = .tup b := by simp only [frz]
@[simp] theorem frz_lf (b : List D) : frz (.lst false b) = .lst false b := by simp only [frz]
@[simp] theorem frz_lt (b : List D) : frz (.lst true b) = .lst false (b.map frz) := by simp only [frz, frzL_map]
@[simp] theorem frz_df (k : List DK) (b : List D) : frz (.dic false k b) = .dic false k b := by simp only [frz]
@[simp] theorem frz_dt (k : List DK) (b : List D) : frz (.dic true k b) = .dic false k (b.map frz) := by simp only [frz, frzL_map]
@[simp] theorem frz_obj (n : Nat) : frz (.obj n) = .obj n := by simp only [frz]
@[simp] theorem frz_exc (c : String) (fs : List D) : frz (.exc c fs) = .exc c fs := by simp only [frz]

mutual
theorem Den.frz {P : Par} {W W' : Wd} {H H' : Hp} (le : W.le W') : ∀ {d : D} {fp : List Addr} {v : V}, (∀ a ∈ fp, ∀ o, H a = some o → W'.F a = some o) → Den P W H fp v d → Den P W' H' [] v (frz d)
  | .non, _, _, _, h => by simp only [Den, frz_non] at h ⊢; exact ⟨h.1, trivial⟩
  | .bl _, _, _, _, h => by simp only [Den, frz_bl] at h ⊢; exact ⟨h.1, trivial⟩
  | .int _, _, _, _, h => by simp only [Den, frz_int] at h ⊢; exact ⟨h.1, trivial⟩
  | .str _, _, _, _, h => by simp only [Den, frz_str] at h ⊢; exact ⟨h.1, trivial, h.2.2⟩
  | .tup xs, fp, _, _, h => by
    have e : fp = [] := by simp only [Den] at h; exact h.1
    subst e
    rw [frz_tup]
    exact Den.mono le (fun _ h => by simp at h) h
  | .lst false xs, fp, _, _, h => by
    have e : fp = [] := by simp only [Den] at h; exact h.1
    subst e
    rw [frz_lf]
    exact Den.mono le (fun _ h => by simp at h) h
  | .dic false ks xs, fp, _, _, h => by
    have e : fp = [] := by simp only [Den] at h; exact h.1
    subst e
    rw [frz_df]
    exact Den.mono le (fun _ h => by simp at h) h
  | .obj _, fp, _, _, h => by
    have e : fp = [] := by simp only [Den] at h; exact h.1
    subst e
    rw [frz_obj]
    exact Den.mono le (fun _ h => by simp at h) h
  | .exc _ _, fp, _, _, h => by
    have e : fp = [] := by simp only [Den] at h; exact h.1
    subst e
    rw [frz_exc]
    exact Den.mono le (fun _ h => by simp at h) h
  | .lst true xs, _, _, k, h => by
    simp only [Den] at h
    obtain ⟨a, vs, fp', ev, ha, ef, hl⟩ := h
    subst ef
    simp only [G.frz, Den]
    exact ⟨trivial, a, vs, ev, k a (by simp) _ ha, DenL.frz le (fun b hb o e => k b (List.mem_cons_of_mem _ hb) o e) hl⟩
  | .dic true ks xs, _, _, k, h => by
    simp only [Den] at h
    obtain ⟨a, vs, fp', ev, ha, ef, hl⟩ := h
    subst ef
    simp only [G.frz, Den]
    exact ⟨trivial, a, vs, ev, ha.mono (k a (by simp)), DenL.frz le (fun b hb o e => k b (List.mem_cons_of_mem _ hb) o e) hl⟩
theorem DenL.frz {P : Par} {W W' : Wd} {H H' : Hp} (le : W.le W') : ∀ {ds : List D} {fp : List Addr} {vs : List V}, (∀ a ∈ fp, ∀ o, H a = some o → W'.F a = some o) → DenL P W H fp vs ds → DenL P W' H' [] vs (frzL ds)
  | [], _, _, _, h => by simp only [DenL, frzL] at h ⊢; exact ⟨h.1, trivial⟩
  | d :: ds, _, _, k, h => by
    rw [denL_cons] at h
    rw [frzL, denL_cons]
    obtain ⟨v, vs', fp1, fp2, e1, e2, h1, h2⟩ := h
    subst e2
    exact ⟨v, vs', [], [], e1, rfl, Den.frz le (fun a ha => k a (List.mem_append_left _ ha)) h1, DenL.frz le (fun a ha => k a (List.mem_append_right _ ha)) h2⟩
end
/-- the fixed world with what stands at fp -/
def Wd.add (W : Wd) (H : Hp) (fp : List Addr) : Wd := ⟨fun a => if a ∈ fp then H a else W.F a, W.oas⟩
theorem Wd.add_le {W : Wd} {H : Hp} {fp : List Addr} (h : ∀ a ∈ fp, W.F a = none) : W.le (W.add H fp) :=
  ⟨fun a o e => by
    have hn : a ∉ fp := fun z => by rw [h a z] at e; cases e
    show (if a ∈ fp then H a else W.F a) = some o
    rw [if_neg hn]; exact e, fun _ _ e => e⟩
theorem Wd.add_at {W : Wd} {H : Hp} {fp : List Addr} {a : Addr} (h : a ∈ fp) : (W.add H fp).F a = H a := if_pos h
theorem Wd.add_off {W : Wd} {H : Hp} {fp : List Addr} {a : Addr} (h : a ∉ fp) : (W.add H fp).F a = W.F a := if_neg h

/-! ### the store -/
inductive Ob where
  | scr (ns : List Int)
  | strm (ns : List Int) (cell k : Int)
  | ins (c : String) (ks : List String) (fs : List D)
def DenOb (P : Par) (W : Wd) (H : Hp) (m : List Addr) (a : Addr) : Ob → Prop
  | .scr ns => m = [] ∧ SqL P.K W.F a (ns.map V.int)
  | .strm ns cell k => m = [a] ∧ ∃ l, H a = some (.lst [.ref l, .int cell, .int k]) ∧ W.F l = some (.lst (ns.map V.int))
  | .ins c ks fs => ∃ dx vs fp, m = a :: dx :: fp ∧ H a = some (.ins (P.cl c) dx (ks.zip vs |>.map fun p => (PySem.Str.ofString p.1, p.2))) ∧ H dx = some (.own a) ∧ ks.length = vs.length ∧ DenL P W H fp vs fs
def DenS (P : Par) (W : Wd) (H : Hp) : List Addr → List Addr → List Ob → Prop
  | M, [], [] => M = []
  | M, a :: as, o :: os => ∃ m1 m2, M = m1 ++ m2 ∧ DenOb P W H m1 a o ∧ DenS P W H m2 as os
  | _, _, _ => False
theorem SqL.le {K : PySem.W.Frag} {H H' : Hp} {a : Addr} {xs : List V} (k : ∀ b o, H b = some o → H' b = some o) (h : SqL K H a xs) : SqL K H' a xs := by
  have s : Same H H' := k
  exact s.seq h
theorem DenOb.mono {P : Par} {W W' : Wd} {H H' : Hp} (le : W.le W') {m : List Addr} {a : Addr} {o : Ob} (k : ∀ b ∈ m, ∀ o, H b = some o → H' b = some o) (h : DenOb P W H m a o) : DenOb P W' H' m a o := by
  cases o with
  | scr ns => exact ⟨h.1, SqL.le le.F h.2⟩
  | strm ns cell kk =>
    obtain ⟨e, l, h1, h2⟩ := h
    subst e
    exact ⟨rfl, l, k a (by simp) _ h1, le.F _ _ h2⟩
  | ins c ks fs =>
    obtain ⟨dx, vs, fp, e, h1, h2, h3, h4⟩ := h
    subst e
    exact ⟨dx, vs, fp, rfl, k a (by simp) _ h1, k dx (by simp) _ h2, h3, h4.mono le fun b hb => k b (by simp [hb])⟩
theorem DenS.mono {P : Par} {W W' : Wd} {H H' : Hp} (le : W.le W') : ∀ {s : List Ob} {as M : List Addr}, (∀ b ∈ M, ∀ o, H b = some o → H' b = some o) → DenS P W H M as s → DenS P W' H' M as s
  | [], [], M, _, h => h
  | [], _ :: _, _, _, h => h.elim
  | _ :: _, [], _, _, h => h.elim
  | o :: os, a :: as, M, k, h => by
    obtain ⟨m1, m2, e, h1, h2⟩ := h
    subst e
    exact ⟨m1, m2, rfl, h1.mono le fun b hb => k b (List.mem_append_left _ hb), DenS.mono le (fun b hb => k b (List.mem_append_right _ hb)) h2⟩
theorem DenOb.stands {P : Par} {W : Wd} {H : Hp} {m : List Addr} {a : Addr} {o : Ob} (h : DenOb P W H m a o) {b : Addr} (hb : b ∈ m) : H b ≠ none := by
  cases o with
  | scr ns => rw [h.1] at hb; simp at hb
  | strm ns cell k =>
    obtain ⟨e, l, h1, h2⟩ := h
    rw [e] at hb
    rw [List.mem_singleton.mp hb, h1]; simp
  | ins c ks fs =>
    obtain ⟨dx, vs, fp, e, h1, h2, h3, h4⟩ := h
    rw [e] at hb
    rcases List.mem_cons.mp hb with rfl | hb
    · rw [h1]; simp
    · rcases List.mem_cons.mp hb with rfl | hb
      · rw [h2]; simp
      · exact h4.stands hb
theorem DenS.stands {P : Par} {W : Wd} {H : Hp} : ∀ {s : List Ob} {as M : List Addr}, DenS P W H M as s → ∀ {b : Addr}, b ∈ M → H b ≠ none
  | [], [], M, h, b, hb => by rw [show M = [] from h] at hb; simp at hb
  | [], _ :: _, _, h, _, _ => h.elim
  | _ :: _, [], _, h, _, _ => h.elim
  | o :: os, a :: as, M, h, b, hb => by
    obtain ⟨m1, m2, e, h1, h2⟩ := h
    subst e
    rcases List.mem_append.mp hb with hb | hb
    · exact h1.stands hb
    · exact DenS.stands h2 hb

/-! ### a frame's slots -/
def DenE (P : Par) (W : Wd) (H : Hp) : List Addr → St → List (Option D) → Prop
  | O, [], [] => O = []
  | O, _ :: σ, none :: e => DenE P W H O σ e
  | O, x :: σ, some d :: e => ∃ v o1 o2, x = some v ∧ O = o1 ++ o2 ∧ Den P W H o1 v d ∧ DenE P W H o2 σ e
  | _, _, _ => False
theorem DenE.mono {P : Par} {W W' : Wd} {H H' : Hp} (le : W.le W') : ∀ {e : List (Option D)} {σ : St} {O : List Addr}, (∀ b ∈ O, ∀ o, H b = some o → H' b = some o) → DenE P W H O σ e → DenE P W' H' O σ e
  | [], [], O, _, h => h
  | [], _ :: _, _, _, h => h.elim
  | none :: _, [], _, _, h => h.elim
  | some _ :: _, [], _, _, h => h.elim
  | none :: e, x :: σ, O, k, h => by
    have h' : DenE P W H O σ e := h
    show DenE P W' H' O σ e
    exact DenE.mono le k h'
  | some d :: e, x :: σ, O, k, h => by
    obtain ⟨v, o1, o2, ex, eo, h1, h2⟩ := h
    subst eo
    exact ⟨v, o1, o2, ex, rfl, h1.mono le fun b hb => k b (List.mem_append_left _ hb), DenE.mono le (fun b hb => k b (List.mem_append_right _ hb)) h2⟩
theorem DenE.own {P : Par} {W : Wd} {H : Hp} : ∀ {e : List (Option D)} {σ : St} {O : List Addr}, DenE P W H O σ e → ∀ a ∈ O, ∃ o, H a = some o ∧ MutO o
  | [], [], O, h, a, ha => by rw [show O = [] from h] at ha; simp at ha
  | [], _ :: _, _, h, _, _ => h.elim
  | none :: _, [], _, h, _, _ => h.elim
  | some _ :: _, [], _, h, _, _ => h.elim
  | none :: e, x :: σ, O, h, a, ha => by
    have h' : DenE P W H O σ e := h
    exact DenE.own h' a ha
  | some d :: e, x :: σ, O, h, a, ha => by
    obtain ⟨v, o1, o2, ex, eo, h1, h2⟩ := h
    subst eo
    rcases List.mem_append.mp ha with ha | ha
    · exact h1.own a ha
    · exact DenE.own h2 a ha
theorem DenE.len {P : Par} {W : Wd} {H : Hp} : ∀ {e : List (Option D)} {σ : St} {O : List Addr}, DenE P W H O σ e → σ.length = e.length
  | [], [], O, h => rfl
  | [], _ :: _, _, h => h.elim
  | none :: _, [], _, h => h.elim
  | some _ :: _, [], _, h => h.elim
  | none :: e, x :: σ, O, h => by
    have h' : DenE P W H O σ e := h
    simp [DenE.len h']
  | some d :: e, x :: σ, O, h => by
    obtain ⟨v, o1, o2, ex, eo, h1, h2⟩ := h
    simp [DenE.len h2]
/-- one slot and the others: it may be set anew -/
theorem DenE.split {P : Par} {W : Wd} {H : Hp} : ∀ {e : List (Option D)} {σ : St} {O : List Addr} {i : Nat} {d : D}, DenE P W H O σ e → e[i]? = some (some d) →
    ∃ v o1 om o2, O = o1 ++ (om ++ o2) ∧ σ[i]? = some (some v) ∧ Den P W H om v d ∧
      ∀ (W' : Wd) (H' : Hp) (om' : List Addr) (v' : V) (d' : D), W.le W' → (∀ b ∈ o1 ++ o2, ∀ o, H b = some o → H' b = some o) → Den P W' H' om' v' d' → DenE P W' H' (o1 ++ (om' ++ o2)) (σ.set i (some v')) (e.set i (some d'))
  | [], [], O, i, d, h, hi => by simp at hi
  | [], _ :: _, _, _, _, h, _ => h.elim
  | none :: _, [], _, _, _, h, _ => h.elim
  | some _ :: _, [], _, _, _, h, _ => h.elim
  | none :: e, x :: σ, O, 0, d, h, hi => by simp at hi
  | none :: e, x :: σ, O, i + 1, d, h, hi => by
    have h' : DenE P W H O σ e := h
    obtain ⟨v, o1, om, o2, eo, ev, hd, k⟩ := DenE.split (i := i) h' (by simpa using hi)
    exact ⟨v, o1, om, o2, eo, by simpa using ev, hd, fun W' H' om' v' d' le kk hd' => k W' H' om' v' d' le kk hd'⟩
  | some d0 :: e, x :: σ, O, 0, d, h, hi => by
    obtain ⟨v, o1, o2, ex, eo, h1, h2⟩ := h
    have e0 : d0 = d := by simpa using hi
    subst e0
    exact ⟨v, [], o1, o2, eo, by simp [ex], h1, fun W' H' om' v' d' le kk hd' => ⟨v', om', o2, rfl, rfl, hd', h2.mono le fun b hb => kk b (by simpa using hb)⟩⟩
  | some d0 :: e, x :: σ, O, i + 1, d, h, hi => by
    obtain ⟨v0, p1, p2, ex, eo, h1, h2⟩ := h
    obtain ⟨v, o1, om, o2, eo2, ev, hd, k⟩ := DenE.split (i := i) h2 (by simpa using hi)
    subst eo2
    refine ⟨v, p1 ++ o1, om, o2, by rw [eo]; simp, by simpa using ev, hd, fun W' H' om' v' d' le kk hd' => ?_⟩
    refine ⟨v0, p1, o1 ++ (om' ++ o2), ex, by simp, h1.mono le fun b hb => kk b (by simp [hb]), ?_⟩
    exact k W' H' om' v' d' le (fun b hb => kk b (by rcases List.mem_append.mp hb with z | z <;> simp [z])) hd'
/-- a slot is set: what it held goes -/
theorem DenE.set {P : Par} {W : Wd} {H : Hp} : ∀ {e : List (Option D)} {σ : St} {O : List Addr} {i : Nat} {v : V} {d : D} {fp : List Addr}, DenE P W H O σ e → i < e.length → Den P W H fp v d →
    ∃ o1 o2, (∃ om, O = o1 ++ (om ++ o2)) ∧ DenE P W H (o1 ++ (fp ++ o2)) (σ.set i (some v)) (e.set i (some d))
  | [], _, O, i, v, d, fp, h, hi, _ => by simp at hi
  | none :: _, [], _, _, _, _, _, h, _, _ => h.elim
  | some _ :: _, [], _, _, _, _, _, h, _, _ => h.elim
  | none :: e, x :: σ, O, 0, v, d, fp, h, hi, hd => by
    have h' : DenE P W H O σ e := h
    exact ⟨[], O, ⟨[], rfl⟩, v, fp, O, rfl, rfl, hd, h'⟩
  | some d0 :: e, x :: σ, O, 0, v, d, fp, h, hi, hd => by
    obtain ⟨v0, p1, p2, ex, eo, h1, h2⟩ := h
    exact ⟨[], p2, ⟨p1, eo⟩, v, fp, p2, rfl, rfl, hd, h2⟩
  | none :: e, x :: σ, O, i + 1, v, d, fp, h, hi, hd => by
    have h' : DenE P W H O σ e := h
    obtain ⟨o1, o2, ho, hn⟩ := DenE.set (i := i) h' (by simpa using hi) hd
    exact ⟨o1, o2, ho, hn⟩
  | some d0 :: e, x :: σ, O, i + 1, v, d, fp, h, hi, hd => by
    obtain ⟨v0, p1, p2, ex, eo, h1, h2⟩ := h
    obtain ⟨o1, o2, ⟨om, ho⟩, hn⟩ := DenE.set (i := i) h2 (by simpa using hi) hd
    exact ⟨p1 ++ o1, o2, ⟨om, by rw [eo, ho]; simp⟩, v0, p1, o1 ++ (fp ++ o2), ex, by simp, h1, hn⟩
/-- a slot is forgotten -/
theorem DenE.drop {P : Par} {W : Wd} {H : Hp} : ∀ {e : List (Option D)} {σ : St} {O : List Addr} (i : Nat) (x : Option V), DenE P W H O σ e →
    ∃ o1 o2, (∃ om, O = o1 ++ (om ++ o2)) ∧ DenE P W H (o1 ++ o2) (σ.set i x) (e.set i none)
  | [], [], O, i, x, h => ⟨[], [], ⟨[], h⟩, rfl⟩
  | [], _ :: _, _, _, _, h => h.elim
  | none :: _, [], _, _, _, h => h.elim
  | some _ :: _, [], _, _, _, h => h.elim
  | none :: e, y :: σ, O, 0, x, h => by
    have h' : DenE P W H O σ e := h
    exact ⟨[], O, ⟨[], rfl⟩, h'⟩
  | some d0 :: e, y :: σ, O, 0, x, h => by
    obtain ⟨v0, p1, p2, ex, eo, h1, h2⟩ := h
    exact ⟨[], p2, ⟨p1, eo⟩, h2⟩
  | none :: e, y :: σ, O, i + 1, x, h => by
    have h' : DenE P W H O σ e := h
    obtain ⟨o1, o2, ho, hn⟩ := DenE.drop i x h'
    exact ⟨o1, o2, ho, hn⟩
  | some d0 :: e, y :: σ, O, i + 1, x, h => by
    obtain ⟨v0, p1, p2, ex, eo, h1, h2⟩ := h
    obtain ⟨o1, o2, ⟨om, ho⟩, hn⟩ := DenE.drop i x h2
    exact ⟨p1 ++ o1, o2, ⟨om, by rw [eo, ho]; simp⟩, v0, p1, o1 ++ o2, ex, by simp, h1, hn⟩
end G

namespace G
open PySem L2

structure Z where
  env : List (Option D)
  st : List Ob
inductive R (α : Type) where
  | ok (a : α) (z : Z)
  | exc (c : String) (fs : List D) (z : Z)
  | stk
abbrev M (α : Type) := Z → R α
def bnd {α β : Type} (m : M α) (f : α → M β) : M β := fun z =>
  match m z with
  | .ok a z' => f a z'
  | .exc c fs z' => .exc c fs z'
  | .stk => .stk
def ret {α : Type} (a : α) : M α := fun z => .ok a z
def lift {α : Type} : Option α → M α
  | some a => fun z => .ok a z
  | none => fun _ => .stk

structure Stp (Z : List Addr) (W W' : Wd) (H H' : Hp) (O O' M M' : List Addr) : Prop where
  le : W.le W'
  keep : ∀ b o, H b = some o → b ∉ Z → H' b = some o
  dom : ∀ b, H' b = none → H b = none
  fF : ∀ a, W'.F a ≠ none → W.F a ≠ none ∨ a ∈ O ∨ H a = none
  fO : ∀ a ∈ O', a ∈ O ∨ H a = none
  fM : ∀ a ∈ M', a ∈ M ∨ H a = none
theorem Stp.refl {Z : List Addr} {W : Wd} {H : Hp} {O M : List Addr} : Stp Z W W H H O O M M :=
  ⟨Wd.le.refl W, fun _ _ e _ => e, fun _ e => e, fun _ e => .inl e, fun _ h => .inl h, fun _ h => .inl h⟩
theorem Stp.trans {Z Z1 : List Addr} {W W1 W2 : Wd} {H H1 H2 : Hp} {O O1 O2 M M1 M2 : List Addr} (x : Stp Z W W1 H H1 O O1 M M1) (y : Stp Z1 W1 W2 H1 H2 O1 O2 M1 M2)
    (hz : ∀ b ∈ Z1, b ∈ Z ∨ H b = none) : Stp Z W W2 H H2 O O2 M M2 where
  le := x.le.trans y.le
  keep := fun b o e hb => y.keep b o (x.keep b o e hb) fun h1 => (hz b h1).elim hb fun n => by rw [n] at e; cases e
  dom := fun b e => x.dom b (y.dom b e)
  fF := fun a e => (y.fF a e).elim (fun z => x.fF a z) fun z => z.elim (fun z => .inr (x.fO a z)) fun z => .inr (.inr (x.dom a z))
  fO := fun a h => (y.fO a h).elim (fun z => x.fO a z) fun z => .inr (x.dom a z)
  fM := fun a h => (y.fM a h).elim (fun z => x.fM a z) fun z => .inr (x.dom a z)
/-- expressions: only the store may change -/
theorem Stp.transE {W W1 W2 : Wd} {H H1 H2 : Hp} {O O1 O2 M M1 M2 : List Addr} (x : Stp M W W1 H H1 O O1 M M1) (y : Stp M1 W1 W2 H1 H2 O1 O2 M1 M2) : Stp M W W2 H H2 O O2 M M2 := x.trans y x.fM
theorem Stp.transS {W W1 W2 : Wd} {H H1 H2 : Hp} {O O1 O2 M M1 M2 : List Addr} (x : Stp (M ++ O) W W1 H H1 O O1 M M1) (y : Stp (M1 ++ O1) W1 W2 H1 H2 O1 O2 M1 M2) : Stp (M ++ O) W W2 H H2 O O2 M M2 :=
  x.trans y fun b hb => (List.mem_append.mp hb).elim (fun z => (x.fM b z).imp (fun z => List.mem_append_left _ z) id) fun z => (x.fO b z).imp (fun z => List.mem_append_right _ z) id
theorem Stp.wide {Z Z' : List Addr} {W W1 : Wd} {H H1 : Hp} {O O1 M M1 : List Addr} (x : Stp Z W W1 H H1 O O1 M M1) (h : ∀ b ∈ Z, b ∈ Z') : Stp Z' W W1 H H1 O O1 M M1 :=
  ⟨x.le, fun b o e hb => x.keep b o e fun z => hb (h b z), x.dom, x.fF, x.fO, x.fM⟩
theorem Stp.es {W W1 : Wd} {H H1 : Hp} {O O1 M M1 : List Addr} (x : Stp M W W1 H H1 O O1 M M1) : Stp (M ++ O) W W1 H H1 O O1 M M1 := x.wide fun _ h => List.mem_append_left _ h

structure Rel (P : Par) (W : Wd) (H : Hp) (O M : List Addr) (σ : St) (z : Z) : Prop where
  sub : ∀ a o, W.F a = some o → H a = some o
  env : DenE P W H O σ z.env
  st : DenS P W H M W.oas z.st
  nd : (O ++ M).Nodup
  off : ∀ a ∈ O ++ M, W.F a = none
/-- owned alone, new since H -/
structure Own (H : Hp) (W' : Wd) (O' M' fp : List Addr) : Prop where
  nd : fp.Nodup
  new : ∀ a ∈ fp, H a = none
  oF : ∀ a ∈ fp, W'.F a = none
  oO : ∀ a ∈ fp, a ∉ O'
  oM : ∀ a ∈ fp, a ∉ M'
theorem Own.nil {H : Hp} {W' : Wd} {O' M' : List Addr} : Own H W' O' M' [] := ⟨List.nodup_nil, by simp, by simp, by simp, by simp⟩
/-- owned things stay alone behind a step (they stand at its start) -/
theorem Own.step {H H1 H2 : Hp} {W1 W2 : Wd} {Z O1 O2 M1 M2 fp : List Addr} (x : Own H W1 O1 M1 fp) (hs : ∀ a ∈ fp, H1 a ≠ none) (y : Stp Z W1 W2 H1 H2 O1 O2 M1 M2) : Own H W2 O2 M2 fp where
  nd := x.nd
  new := x.new
  oF := fun a ha => by
    cases e : W2.F a with
    | none => rfl
    | some o =>
      rcases y.fF a (by rw [e]; simp) with z | z | z
      · exact absurd (x.oF a ha) z
      · exact absurd z (x.oO a ha)
      · exact absurd z (hs a ha)
  oO := fun a ha h => (y.fO a h).elim (x.oO a ha) (hs a ha)
  oM := fun a ha h => (y.fM a h).elim (x.oM a ha) (hs a ha)
theorem Own.old {H H1 : Hp} {W1 : Wd} {O1 M1 fp : List Addr} (x : Own H1 W1 O1 M1 fp) (d : ∀ b, H1 b = none → H b = none) : Own H W1 O1 M1 fp := ⟨x.nd, fun a h => d a (x.new a h), x.oF, x.oO, x.oM⟩

/-- an exception's class and fields -/
def excNames : String → List String
  | "BadValue" => ["name"]
  | "TooLarge" => ["what"]
  | "NotPossible" => ["why"]
  | "TextError" => ["column", "words"]
  | "Ahead" => ["options"]
  | _ => []
def ExcR (P : Par) (W : Wd) (c : String) (fs : List D) (cls : Value) (dx : Option Addr) (H : Hp) : Prop :=
  cls = .ref (P.cl c) ∧ ∃ d vs, dx = some d ∧ H d = some (.xd ((excNames c).zip vs |>.map fun p => (PySem.Str.ofString p.1, p.2))) ∧ (excNames c).length = vs.length ∧ DenL P W W.F [] vs fs

abbrev KK (α : Type) := α → Z → Wd → Hp → List Addr → List Addr → Prop
def Post (P : Par) (Wx : WX) (σ : St) (W : Wd) (H : Hp) (O M : List Addr) {α : Type} (K : KK α) : R α → Prop
  | .ok a z => ∀ W' H' O' M', Rel P W' H' O' M' σ z → Stp M W W' H H' O O' M M' → K a z W' H' O' M'
  | .exc c fs z => ∀ cls dx W' H' O' M', Rel P W' H' O' M' σ z → Stp M W W' H H' O O' M M' → ExcR P W' c fs cls dx H' → Wx cls dx σ H'
  | .stk => False
section
variable {P : Par} {Wx : WX} {σ : St} {W W1 : Wd} {H H1 : Hp} {O O1 Ms M1 : List Addr} {α β : Type}
theorem Post.later {K : KK α} {r : R α} (s : Stp Ms W W1 H H1 O O1 Ms M1) (h : Post P Wx σ W H O Ms K r) : Post P Wx σ W1 H1 O1 M1 K r := by
  cases r with
  | ok a z => exact fun W' H' O' M' rl st => h W' H' O' M' rl (s.transE st)
  | exc c fs z => exact fun cls dx W' H' O' M' rl st => h cls dx W' H' O' M' rl (s.transE st)
  | stk => exact h
theorem Post.mono {K K' : KK α} {r : R α} (h : Post P Wx σ W H O Ms K r) (k : ∀ a z W' H' O' M', Rel P W' H' O' M' σ z → Stp Ms W W' H H' O O' Ms M' → K a z W' H' O' M' → K' a z W' H' O' M') : Post P Wx σ W H O Ms K' r := by
  cases r with
  | ok a z => exact fun W' H' O' M' rl st => k _ _ _ _ _ _ rl st (h W' H' O' M' rl st)
  | exc c fs z => exact h
  | stk => exact h
theorem Post.bind {K : KK β} {m : M α} {f : α → M β} {z : Z} (h : Post P Wx σ W H O Ms K (bnd m f z)) :
    Post P Wx σ W H O Ms (fun a z1 W1 H1 O1 M1 => Rel P W1 H1 O1 M1 σ z1 ∧ Stp Ms W W1 H H1 O O1 Ms M1 ∧ Post P Wx σ W1 H1 O1 M1 K (f a z1)) (m z) := by
  unfold bnd at h
  cases e : m z with
  | ok a z1 =>
    rw [e] at h
    exact fun W' H' O' M' rl st => ⟨rl, st, Post.later st h⟩
  | exc c fs z1 => rw [e] at h; exact h
  | stk => rw [e] at h; exact h
/-- .. the end as seen from the start -/
theorem Post.bind0 {K : KK β} {m : M α} {f : α → M β} {z : Z} (h : Post P Wx σ W H O Ms K (bnd m f z)) :
    Post P Wx σ W H O Ms (fun a z1 W1 H1 O1 M1 => Post P Wx σ W H O Ms K (f a z1)) (m z) := by
  unfold bnd at h
  cases e : m z with
  | ok a z1 =>
    rw [e] at h
    exact fun W' H' O' M' rl st => h
  | exc c fs z1 => rw [e] at h; exact h
  | stk => rw [e] at h; exact h
theorem Post.lift {K : KK α} {o : Option α} {z : Z} (rl : Rel P W H O Ms σ z) (h : Post P Wx σ W H O Ms K (lift o z)) : ∃ a, o = some a ∧ K a z W H O Ms := by
  cases o with
  | none => exact h.elim
  | some a => exact ⟨a, rfl, h _ _ _ _ rl .refl⟩
/-- with an answer reckoned behind a further step -/
theorem Post.lift' {K : KK α} {o : Option α} {z : Z} (h : Post P Wx σ W H O Ms K (G.lift o z)) : ∃ a, o = some a ∧ ∀ W' H' O' M', Rel P W' H' O' M' σ z → Stp Ms W W' H H' O O' Ms M' → K a z W' H' O' M' := by
  cases o with
  | none => exact h.elim
  | some a => exact ⟨a, rfl, h⟩
end

def KB (P : Par) (Q : VK) : KK D := fun d _ W' H' _ M' => ∀ v fp, Den P W' H' fp v d → (∀ a ∈ fp, a ∉ M') → Q v H'
def KE (P : Par) (H : Hp) (Q : VK) : KK D := fun d _ W' H' O' M' => ∀ v fp, Den P W' H' fp v d → Own H W' O' M' fp → Q v H'
def KT (Q : Bool → Hp → Prop) : KK Bool := fun b _ _ H' _ _ => Q b H'
/-- values that may be read -/
def BorL (P : Par) (W : Wd) (H : Hp) (M : List Addr) : List V → List D → Prop := Paired fun v d => ∃ fp, Den P W H fp v d ∧ ∀ a ∈ fp, a ∉ M
def KBs (P : Par) (Q : List V → Hp → Prop) : KK (List D) := fun ds _ W' H' _ M' => ∀ vs, BorL P W' H' M' vs ds → Q vs H'
def KEs (P : Par) (H : Hp) (Q : List V → Hp → Prop) : KK (List D) := fun ds _ W' H' O' M' => ∀ vs fp, DenL P W' H' fp vs ds → Own H W' O' M' fp → Q vs H'

/-- an expression whose value is only looked at -/
def JB (X : Cx) (P : Par) (Wx : WX) (e : Expr) (F : M D) : Prop :=
  ∃ te, PE X e te ∧ ∀ z W H O Ms σ Q, Rel P W H O Ms σ z → Post P Wx σ W H O Ms (KB P Q) (F z) → te σ H Q
/-- an expression whose value is its own -/
def JE (X : Cx) (P : Par) (Wx : WX) (e : Expr) (F : M D) : Prop :=
  ∃ te, PE X e te ∧ ∀ z W H O Ms σ Q, Rel P W H O Ms σ z → Post P Wx σ W H O Ms (KE P H Q) (F z) → te σ H Q
def JT (X : Cx) (P : Par) (Wx : WX) (e : Expr) (F : M Bool) : Prop :=
  ∃ te, PT X e te ∧ ∀ z W H O Ms σ Q, Rel P W H O Ms σ z → Post P Wx σ W H O Ms (KT Q) (F z) → te σ H Q
def JW (X : Cx) (P : Par) (Wx : WX) (e : Expr) (F : M Bool) : Prop :=
  ∃ te, PW X e te ∧ ∀ z W H O Ms σ Q, Rel P W H O Ms σ z → Post P Wx σ W H O Ms (KT Q) (F z) → te σ H Q
def JBs (X : Cx) (P : Par) (Wx : WX) (es : List Expr) (F : M (List D)) : Prop :=
  ∃ te, PA X es te ∧ ∀ z W H O Ms σ Q, Rel P W H O Ms σ z → Post P Wx σ W H O Ms (KBs P Q) (F z) → te σ H Q
def JEs (X : Cx) (P : Par) (Wx : WX) (es : List Expr) (F : M (List D)) : Prop :=
  ∃ te, PA X es te ∧ ∀ z W H O Ms σ Q, Rel P W H O Ms σ z → Post P Wx σ W H O Ms (KEs P H Q) (F z) → te σ H Q

section
variable {X : Cx} {P : Par} {Wx : WX} {a b c e : Expr} {es : List Expr} {Fa Fb Fc F : M D} {pos : Pos}
theorem Den.keepE {W W1 : Wd} {H H1 : Hp} {O O1 Ms M1 fp : List Addr} {v : V} {d : D} (s : Stp Ms W W1 H H1 O O1 Ms M1) (h : Den P W H fp v d) (hm : ∀ a ∈ fp, a ∉ Ms) : Den P W1 H1 fp v d ∧ ∀ a ∈ fp, a ∉ M1 :=
  ⟨h.mono s.le fun a ha o e => s.keep a o e (hm a ha), fun a ha z => (s.fM a z).elim (hm a ha) fun n => h.stands ha n⟩
theorem BorL.keepE {W W1 : Wd} {H H1 : Hp} {O O1 Ms M1 : List Addr} {vs : List V} {ds : List D} (s : Stp Ms W W1 H H1 O O1 Ms M1) (h : BorL P W H Ms vs ds) : BorL P W1 H1 M1 vs ds := by
  refine Paired.mapP h fun v d ⟨fp, h1, h2⟩ => ?_
  obtain ⟨h3, h4⟩ := h1.keepE s h2
  exact ⟨fp, h3, h4⟩
theorem DenL.keepE {W W1 : Wd} {H H1 : Hp} {O O1 Ms M1 fp : List Addr} {vs : List V} {ds : List D} (s : Stp Ms W W1 H H1 O O1 Ms M1) (h : DenL P W H fp vs ds) (hm : ∀ a ∈ fp, a ∉ Ms) : DenL P W1 H1 fp vs ds :=
  h.mono s.le fun a ha o e => s.keep a o e (hm a ha)

theorem JE.jb (h : JE X P Wx e F) : JB X P Wx e F := by
  obtain ⟨te, h1, h2⟩ := h
  refine ⟨te, h1, fun z W H O Ms σ Q rl p => h2 z W H O Ms σ Q rl (p.mono fun d z W' H' O' M' _ _ k v fp hd ho => k v fp hd ho.oM)⟩

/-! ### names and constants -/
def fC (d : D) : M D := ret d
def isScal : D → Bool
  | .non => true | .bl _ => true | .int _ => true | .str _ => true
  | _ => false
theorem den_non {W : Wd} {H : Hp} : Den P W H [] .non .non := by simp [Den]
theorem den_bl {W : Wd} {H : Hp} {b : Bool} : Den P W H [] (.bl b) (.bl b) := by simp [Den]
theorem den_int {W : Wd} {H : Hp} {b : Int} : Den P W H [] (.int b) (.int b) := by simp [Den]
theorem den_str {W : Wd} {H : Hp} {b : List Nat} (h : okS b = true) : Den P W H [] (.str (sOf b)) (.str b) := by simp [Den, h]
theorem j_int {i j} : JE X P Wx (.Constant (.int i) j pos) (fC (.int i)) :=
  ⟨_, pe_int, fun z W H O Ms σ Q rl p => p _ _ _ _ rl .refl _ [] den_int .nil⟩
theorem j_bl {b j} : JE X P Wx (.Constant (.bool b) j pos) (fC (.bl b)) :=
  ⟨_, pe_bl, fun z W H O Ms σ Q rl p => p _ _ _ _ rl .refl _ [] den_bl .nil⟩
theorem j_non {j} : JE X P Wx (.Constant .none j pos) (fC .non) :=
  ⟨_, pe_non, fun z W H O Ms σ Q rl p => p _ _ _ _ rl .refl _ [] den_non .nil⟩
theorem j_str {x : Str} {l : List Nat} {j} (h : x = sOf l) (ho : okS l = true) : JE X P Wx (.Constant (.str x) j pos) (fC (.str l)) := by
  subst h
  exact ⟨_, pe_str, fun z W H O Ms σ Q rl p => p _ _ _ _ rl .refl _ [] (den_str ho) .nil⟩

/-- the slot, looked at -/
def fVB (i : Nat) : M D := fun z => match z.env[i]? with
  | some (some d) => .ok d z
  | _ => .stk
/-- the slot, taken as a value: what it owns is fixed from now on -/
def fV (i : Nat) : M D := fun z => match z.env[i]? with
  | some (some (.lst true xs)) => .ok (frz (.lst true xs)) { z with env := z.env.set i (some (frz (.lst true xs))) }
  | some (some (.dic true ks xs)) => .ok (frz (.dic true ks xs)) { z with env := z.env.set i (some (frz (.dic true ks xs))) }
  | some (some d) => .ok d z
  | _ => .stk
theorem set_self {α : Type} : ∀ {l : List α} {i : Nat} {x : α}, l[i]? = some x → l.set i x = l
  | [], i, x, h => by simp at h
  | a :: l, 0, x, h => by simp at h; simp [h]
  | a :: l, i + 1, x, h => by
    have e := set_self (l := l) (i := i) (x := x) (by simpa using h)
    simp [e]
theorem j_vb {i : Nat} {x : Str} (hN : X.N[i]? = some x) (hv : Vis X.env.scope x) (hd : (x == ("__debug__" : Str)) = false := by decide) (hcd : (x == ("__classdict__" : Str)) = false := by decide) : JB X P Wx (.Name x pos) (fVB i) := by
  refine ⟨_, pe_var hN hv hd hcd, fun z W H O Ms σ Q rl p => ?_⟩
  unfold fVB at p
  split at p
  · rename_i d e
    obtain ⟨v, o1, om, o2, eo, ev, hden, _⟩ := rl.env.split e
    refine ⟨v, ev, p _ _ _ _ rl .refl v om hden fun a ha hm => ?_⟩
    have nd := rl.nd
    rw [eo] at nd
    exact (List.nodup_append.mp nd).2.2 a (by simp [ha]) a hm rfl
  · exact p.elim
/-- fixing what a slot owns -/
theorem Rel.freeze {W : Wd} {H : Hp} {O Ms : List Addr} {σ : St} {z : Z} {i : Nat} {d : D} (rl : Rel P W H O Ms σ z) (e : z.env[i]? = some (some d)) :
    ∃ v W' O', σ[i]? = some (some v) ∧ Rel P W' H O' Ms σ { z with env := z.env.set i (some (frz d)) } ∧ Stp Ms W W' H H O O' Ms Ms ∧ Den P W' H [] v (frz d) := by
  obtain ⟨v, o1, om, o2, eo, ev, hden, k⟩ := rl.env.split e
  subst eo
  have nd := rl.nd
  have nd1 : (o1 ++ (om ++ o2)).Nodup := (List.nodup_append.mp nd).1
  have offm : ∀ a ∈ om, W.F a = none := fun a ha => rl.off a (by simp [ha])
  have le : W.le (W.add H om) := Wd.add_le offm
  have hf : Den P (W.add H om) H [] v (frz d) := Den.frz le (fun a ha o eh => by rw [Wd.add_at ha]; exact eh) hden
  refine ⟨v, W.add H om, o1 ++ o2, ev, ⟨fun a o ea => ?_, ?_, ?_, ?_, fun a ha => ?_⟩, ⟨le, fun _ _ e _ => e, fun _ e => e, fun a ha => ?_, fun a ha => ?_, fun _ h => .inl h⟩, hf⟩
  · by_cases ha : a ∈ om
    · rw [Wd.add_at ha] at ea; exact ea
    · rw [Wd.add_off ha] at ea; exact rl.sub a o ea
  · have q := k (W.add H om) H [] v (frz d) le (fun _ _ _ e => e) hf
    rw [set_self ev] at q
    exact q
  · exact rl.st.mono le fun _ _ _ e => e
  · refine nd.sublist ?_
    exact List.Sublist.append (List.Sublist.append (List.Sublist.refl _) (List.sublist_append_right _ _)) (List.Sublist.refl _)
  · have hna : a ∉ om := fun hm => by
      rcases List.mem_append.mp ha with ha | ha
      · rcases List.mem_append.mp ha with ha | ha
        · exact (List.nodup_append.mp nd1).2.2 a ha a (by simp [hm]) rfl
        · exact (List.nodup_append.mp (List.nodup_append.mp nd1).2.1).2.2 a hm a ha rfl
      · exact (List.nodup_append.mp nd).2.2 a (by simp [hm]) a ha rfl
    rw [Wd.add_off hna]
    refine rl.off a ?_
    rcases List.mem_append.mp ha with ha | ha
    · rcases List.mem_append.mp ha with ha | ha <;> simp [ha]
    · simp [ha]
  · by_cases hm : a ∈ om
    · exact .inr (.inl (by simp [hm]))
    · rw [Wd.add_off hm] at ha; exact .inl ha
  · rcases List.mem_append.mp ha with ha | ha <;> exact .inl (by simp [ha])
def notOwn : D → Bool
  | .lst true _ => false
  | .dic true _ _ => false
  | _ => true
theorem Den.notOwn {W : Wd} {H : Hp} {fp : List Addr} {v : V} {d : D} (h : Den P W H fp v d) (n : notOwn d = true) : fp = [] := by
  match d, n with
  | .non, _ => simp only [Den] at h; exact h.2
  | .bl _, _ => simp only [Den] at h; exact h.2
  | .int _, _ => simp only [Den] at h; exact h.2
  | .str _, _ => simp only [Den] at h; exact h.2.1
  | .tup _, _ => simp only [Den] at h; exact h.1
  | .lst false _, _ => simp only [Den] at h; exact h.1
  | .dic false _ _, _ => simp only [Den] at h; exact h.1
  | .obj _, _ => simp only [Den] at h; exact h.1
  | .exc _ _, _ => simp only [Den] at h; exact h.1
theorem frz_notOwn {d : D} (n : notOwn d = true) : frz d = d := by
  match d, n with
  | .non, _ => simp
  | .bl _, _ => simp
  | .int _, _ => simp
  | .str _, _ => simp
  | .tup _, _ => simp
  | .lst false _, _ => simp
  | .dic false _ _, _ => simp
  | .obj _, _ => simp
  | .exc _ _, _ => simp
theorem j_v {i : Nat} {x : Str} (hN : X.N[i]? = some x) (hv : Vis X.env.scope x) (hd : (x == ("__debug__" : Str)) = false := by decide) (hcd : (x == ("__classdict__" : Str)) = false := by decide) : JE X P Wx (.Name x pos) (fV i) := by
  refine ⟨_, pe_var hN hv hd hcd, fun z W H O Ms σ Q rl p => ?_⟩
  unfold fV at p
  split at p
  · rename_i xs e
    obtain ⟨v, W', O', ev, rl', st, hf⟩ := rl.freeze e
    exact ⟨v, ev, p _ _ _ _ rl' st v [] hf .nil⟩
  · rename_i ks xs e
    obtain ⟨v, W', O', ev, rl', st, hf⟩ := rl.freeze e
    exact ⟨v, ev, p _ _ _ _ rl' st v [] hf .nil⟩
  · rename_i d h1 h2 e
    obtain ⟨v, o1, om, o2, eo, ev, hden, _⟩ := rl.env.split e
    have no : notOwn d = true := by
      match d with
      | .lst true xs => exact absurd rfl (h1 xs)
      | .dic true ks xs => exact absurd rfl (h2 ks xs)
      | .non => rfl
      | .bl _ => rfl
      | .int _ => rfl
      | .str _ => rfl
      | .tup _ => rfl
      | .lst false _ => rfl
      | .dic false _ _ => rfl
      | .obj _ => rfl
      | .exc _ _ => rfl
    have e0 := hden.notOwn no
    subst e0
    exact ⟨v, ev, p _ _ _ _ rl .refl v [] hden .nil⟩
  · exact p.elim

/-! ### two operands -/
def fBin (g : D → D → Option D) (Fa Fb : M D) : M D := bnd Fa fun x => bnd Fb fun y => lift (g x y)
def fUn (g : D → Option D) (Fa : M D) : M D := bnd Fa fun x => lift (g x)
/-- what a rule of the model makes of two values that are looked at -/
structure OpD (P : Par) (g : D → D → Option D) (r : R2) : Prop where
  run : ∀ {W : Wd} {H : Hp} {O Ms : List Addr} {σ : St} {z : Z} {x y : V} {da db d : D} {fa fb : List Addr} {Q : VK}, Rel P W H O Ms σ z → Den P W H fa x da → Den P W H fb y db →
  (∀ a ∈ fa, a ∉ Ms) → (∀ a ∈ fb, a ∉ Ms) → g da db = some d → (∀ v W' H' fp, Rel P W' H' O Ms σ z → Stp Ms W W' H H' O O Ms Ms → Den P W' H' fp v d → Own H W' O Ms fp → Q v H') → r x y H Q
structure UnD (P : Par) (g : D → Option D) (r : V → Hp → VK → Prop) : Prop where
  run : ∀ {W : Wd} {H : Hp} {O Ms : List Addr} {σ : St} {z : Z} {x : V} {da d : D} {fa : List Addr} {Q : VK}, Rel P W H O Ms σ z → Den P W H fa x da →
  (∀ a ∈ fa, a ∉ Ms) → g da = some d → (∀ v W' H' fp, Rel P W' H' O Ms σ z → Stp Ms W W' H H' O O Ms Ms → Den P W' H' fp v d → Own H W' O Ms fp → Q v H') → r x H Q
/-- the run of two operands -/
theorem run2 {ta tb : TE} {g : D → D → Option D} {r : R2} (o : OpD P g r)
    (ha : ∀ z W H O Ms σ Q, Rel P W H O Ms σ z → Post P Wx σ W H O Ms (KB P Q) (Fa z) → ta σ H Q) (hb : ∀ z W H O Ms σ Q, Rel P W H O Ms σ z → Post P Wx σ W H O Ms (KB P Q) (Fb z) → tb σ H Q) :
    ∀ z W H O Ms σ Q, Rel P W H O Ms σ z → Post P Wx σ W H O Ms (KE P H Q) (fBin g Fa Fb z) → tOp r ta tb σ H Q := by
  intro z W H O Ms σ Q rl p
  refine ha z W H O Ms σ _ rl (p.bind.mono fun da z1 W1 H1 O1 M1 rl1 st1 ⟨_, _, p1⟩ x fa hx hfa => ?_)
  refine hb z1 W1 H1 O1 M1 σ _ rl1 (p1.bind.mono fun db z2 W2 H2 O2 M2 rl2 st2 ⟨_, _, p2⟩ y fb hy hfb => ?_)
  obtain ⟨d, e, k⟩ := p2.lift'
  obtain ⟨hx2, hfa2⟩ := hx.keepE st2 hfa
  exact o.run rl2 hx2 hy hfa2 hfb e fun v W' H' fp rl' st' hd ho => k _ _ _ _ rl' st' v fp hd (ho.old fun b hb => st1.dom b (st2.dom b hb))
theorem run1 {ta : TE} {g : D → Option D} {r : V → Hp → VK → Prop} (o : UnD P g r)
    (ha : ∀ z W H O Ms σ Q, Rel P W H O Ms σ z → Post P Wx σ W H O Ms (KB P Q) (Fa z) → ta σ H Q) :
    ∀ z W H O Ms σ Q, Rel P W H O Ms σ z → Post P Wx σ W H O Ms (KE P H Q) (fUn g Fa z) → tUn r ta σ H Q := by
  intro z W H O Ms σ Q rl p
  refine ha z W H O Ms σ _ rl (p.bind.mono fun da z1 W1 H1 O1 M1 rl1 st1 ⟨_, _, p1⟩ x fa hx hfa => ?_)
  obtain ⟨d, e, k⟩ := p1.lift'
  exact o.run rl1 hx hfa e fun v W' H' fp rl' st' hd ho => k _ _ _ _ rl' st' v fp hd (ho.old fun b hb => st1.dom b hb)
theorem j_bin {op : Operator} {r : R2} {g : D → D → Option D} (hop : OpR X (binaryOp op) r) (o : OpD P g r) (ha : JB X P Wx a Fa) (hb : JB X P Wx b Fb) : JE X P Wx (.BinOp a op b pos) (fBin g Fa Fb) := by
  obtain ⟨ta, pa, ka⟩ := ha
  obtain ⟨tb, pb, kb⟩ := hb
  exact ⟨_, pe_op hop pa pb, run2 o ka kb⟩
theorem j_cmp {op : CmpOp} {r : R2} {g : D → D → Option D} (hop : OpR X (compareOp op) r) (o : OpD P g r) (ha : JB X P Wx a Fa) (hb : JB X P Wx b Fb) (hm : behindInMarks op b = false) : JE X P Wx (.Compare a [op] [b] pos) (fBin g Fa Fb) := by
  obtain ⟨ta, pa, ka⟩ := ha
  obtain ⟨tb, pb, kb⟩ := hb
  exact ⟨_, pe_cmpR hop pa pb hm, run2 o ka kb⟩
def asB : D → Option Bool
  | .bl b => some b
  | _ => none
def fTest (F : M D) : M Bool := bnd F fun d => lift (asB d)
theorem den_bl_inv {W : Wd} {H : Hp} {fp : List Addr} {v : V} {b : Bool} (h : Den P W H fp v (.bl b)) : v = .bl b := by simp only [Den] at h; exact h.1
theorem jt_cmp {op : CmpOp} {r : R2} {g : D → D → Option D} (hop : OpR X (compareOp op) r) (o : OpD P g r) (ha : JB X P Wx a Fa) (hb : JB X P Wx b Fb) (hm : behindInMarks op b = false) : JT X P Wx (.Compare a [op] [b] pos) (fTest (fBin g Fa Fb)) := by
  obtain ⟨ta, pa, ka⟩ := ha
  obtain ⟨tb, pb, kb⟩ := hb
  refine ⟨_, pt_cmpR hop pa pb hm, fun z W H O Ms σ Q rl p => ?_⟩
  refine run2 o ka kb z W H O Ms σ _ rl (p.bind.mono fun d z1 W1 H1 O1 M1 rl1 st1 ⟨_, _, p1⟩ v fp hd ho => ?_)
  obtain ⟨k, e, hk⟩ := Post.lift rl1 p1
  match d, e with
  | .bl b, e =>
    have e' : b = k := Option.some.inj e
    subst e'
    exact ⟨b, den_bl_inv hd, hk⟩
end
end G

namespace G
open PySem L2
/-! ### inversions -/
section
variable {P : Par} {W : Wd} {H : Hp} {fp : List Addr} {v : V}
theorem den_non_inv (h : Den P W H fp v .non) : v = .non ∧ fp = [] := by simpa only [Den] using h
theorem den_int_inv {i : Int} (h : Den P W H fp v (.int i)) : v = .int i ∧ fp = [] := by simpa only [Den] using h
theorem den_blI {b : Bool} (h : Den P W H fp v (.bl b)) : v = .bl b ∧ fp = [] := by simpa only [Den] using h
theorem den_str_inv {l : List Nat} (h : Den P W H fp v (.str l)) : v = .str (sOf l) ∧ fp = [] ∧ okS l = true := by simpa only [Den] using h
theorem den_tup_inv {xs : List D} (h : Den P W H fp v (.tup xs)) : fp = [] ∧ ∃ a vs, v = .ref a ∧ W.F a = some (.tup vs) ∧ DenL P W W.F [] vs xs := by simpa only [Den] using h
theorem den_lf_inv {xs : List D} (h : Den P W H fp v (.lst false xs)) : fp = [] ∧ ∃ a vs, v = .ref a ∧ W.F a = some (.lst vs) ∧ DenL P W W.F [] vs xs := by simpa only [Den] using h
theorem den_lt_inv {xs : List D} (h : Den P W H fp v (.lst true xs)) : ∃ a vs fp', v = .ref a ∧ H a = some (.lst vs) ∧ fp = a :: fp' ∧ DenL P W H fp' vs xs := by simpa only [Den] using h
theorem den_tup {xs : List D} {a : Addr} {vs : List V} (ha : W.F a = some (.tup vs)) (hl : DenL P W W.F [] vs xs) : Den P W H [] (.ref a) (.tup xs) := by simp only [Den]; exact ⟨trivial, a, vs, rfl, ha, hl⟩
theorem den_lt {xs : List D} {a : Addr} {vs : List V} {fp' : List Addr} (ha : H a = some (.lst vs)) (hl : DenL P W H fp' vs xs) : Den P W H (a :: fp') (.ref a) (.lst true xs) := by simp only [Den]; exact ⟨a, vs, fp', rfl, ha, rfl, hl⟩
theorem DenL.any {H' : Hp} {vs : List V} {ds : List D} (h : DenL P W H [] vs ds) : DenL P W H' [] vs ds := h.mono (Wd.le.refl W) fun _ h => by simp at h
theorem Den.any {H' : Hp} {v : V} {d : D} (h : Den P W H [] v d) : Den P W H' [] v d := h.mono (Wd.le.refl W) fun _ h => by simp at h
theorem DenL.len : ∀ {ds : List D} {fp : List Addr} {vs : List V}, DenL P W H fp vs ds → vs.length = ds.length
  | [], _, _, h => by rw [denL_nil] at h; rw [h.1]; rfl
  | d :: ds, _, _, h => by
    rw [denL_cons] at h
    obtain ⟨v, vs', fp1, fp2, e1, e2, h1, h2⟩ := h
    subst e1
    simp [DenL.len h2]
theorem DenL.notOwn : ∀ {ds : List D} {fp : List Addr} {vs : List V}, DenL P W H fp vs ds → ds.all notOwn = true → fp = []
  | [], _, _, h, _ => by rw [denL_nil] at h; exact h.2
  | d :: ds, _, _, h, n => by
    rw [denL_cons] at h
    obtain ⟨v, vs', fp1, fp2, e1, e2, h1, h2⟩ := h
    rw [List.all_cons, Bool.and_eq_true] at n
    rw [e2, h1.notOwn n.1, DenL.notOwn h2 n.2]
    rfl
theorem DenL.get : ∀ {ds : List D} {fp : List Addr} {vs : List V} {j : Nat} {d : D}, DenL P W H fp vs ds → ds[j]? = some d → ∃ v fp', vs[j]? = some v ∧ Den P W H fp' v d ∧ ∀ a ∈ fp', a ∈ fp
  | [], _, _, j, d, h, e => by simp at e
  | d0 :: ds, _, _, 0, d, h, e => by
    rw [denL_cons] at h
    obtain ⟨v, vs', fp1, fp2, e1, e2, h1, h2⟩ := h
    subst e1 e2
    have e' : d0 = d := by simpa using e
    subst e'
    exact ⟨v, fp1, by simp, h1, fun a ha => List.mem_append_left _ ha⟩
  | d0 :: ds, _, _, j + 1, d, h, e => by
    rw [denL_cons] at h
    obtain ⟨v, vs', fp1, fp2, e1, e2, h1, h2⟩ := h
    subst e1 e2
    obtain ⟨w, fp', e3, h3, h4⟩ := DenL.get (j := j) h2 (by simpa using e)
    exact ⟨w, fp', by simpa using e3, h3, fun a ha => List.mem_append_right _ (h4 a ha)⟩
theorem DenL.append : ∀ {ds es : List D} {f1 f2 : List Addr} {vs ws : List V}, DenL P W H f1 vs ds → DenL P W H f2 ws es → DenL P W H (f1 ++ f2) (vs ++ ws) (ds ++ es)
  | [], es, f1, f2, vs, ws, h, k => by
    rw [denL_nil] at h
    rw [h.1, h.2]; exact k
  | d :: ds, es, f1, f2, vs, ws, h, k => by
    rw [denL_cons] at h
    obtain ⟨v, vs', fp1, fp2, e1, e2, h1, h2⟩ := h
    subst e1 e2
    show DenL P W H _ (v :: vs' ++ ws) (d :: (ds ++ es))
    rw [denL_cons]
    exact ⟨v, vs' ++ ws, fp1, fp2 ++ f2, rfl, by simp, h1, DenL.append h2 k⟩
theorem DenL.append0 {ds es : List D} {vs ws : List V} (h : DenL P W H [] vs ds) (k : DenL P W H [] ws es) : DenL P W H [] (vs ++ ws) (ds ++ es) := DenL.append h k
theorem DenL.take : ∀ {ds : List D} {vs : List V} (n : Nat), DenL P W H [] vs ds → DenL P W H [] (vs.take n) (ds.take n)
  | _, _, 0, _ => by simp [DenL]
  | [], vs, n + 1, h => by rw [denL_nil] at h; rw [h.1]; simp [DenL]
  | d :: ds, vs, n + 1, h => by
    rw [denL_cons] at h
    obtain ⟨v, vs', fp1, fp2, e1, e2, h1, h2⟩ := h
    obtain ⟨q1, q2⟩ := List.append_eq_nil_iff.mp e2.symm
    subst e1 q1 q2
    show DenL P W H [] (v :: vs'.take n) (d :: ds.take n)
    rw [denL_cons]
    exact ⟨v, _, [], [], rfl, rfl, h1, DenL.take n h2⟩
theorem DenL.drop : ∀ {ds : List D} {vs : List V} (n : Nat), DenL P W H [] vs ds → DenL P W H [] (vs.drop n) (ds.drop n)
  | _, _, 0, h => h
  | [], vs, n + 1, h => by rw [denL_nil] at h; rw [h.1]; simp [DenL]
  | d :: ds, vs, n + 1, h => by
    rw [denL_cons] at h
    obtain ⟨v, vs', fp1, fp2, e1, e2, h1, h2⟩ := h
    obtain ⟨q1, q2⟩ := List.append_eq_nil_iff.mp e2.symm
    subst e1 q1 q2
    exact DenL.drop n h2
theorem DenL.snoc0 {ds : List D} {vs : List V} {d : D} (h : DenL P W H [] vs ds) (k : Den P W H [] v d) : DenL P W H [] (vs ++ [v]) (ds ++ [d]) :=
  h.append0 (by rw [denL_cons]; exact ⟨v, [], [], [], rfl, rfl, k, by simp [DenL]⟩)
theorem DenL.rev : ∀ {ds : List D} {vs : List V}, DenL P W H [] vs ds → DenL P W H [] vs.reverse ds.reverse
  | [], vs, h => by rw [denL_nil] at h; rw [h.1]; simp [DenL]
  | d :: ds, vs, h => by
    rw [denL_cons] at h
    obtain ⟨v, vs', fp1, fp2, e1, e2, h1, h2⟩ := h
    obtain ⟨q1, q2⟩ := List.append_eq_nil_iff.mp e2.symm
    subst e1 q1 q2
    rw [List.reverse_cons, List.reverse_cons]
    exact (DenL.rev h2).snoc0 h1
theorem DenL.one {d : D} (k : Den P W H fp v d) : DenL P W H fp [v] [d] := by rw [denL_cons]; exact ⟨v, [], fp, [], rfl, by simp, k, by simp [DenL]⟩
theorem DenL.nil : DenL P W H [] [] [] := by simp [DenL]
theorem DenL.cons0 {d : D} {vs : List V} {ds : List D} (k : Den P W H [] v d) (h : DenL P W H [] vs ds) : DenL P W H [] (v :: vs) (d :: ds) := by rw [denL_cons]; exact ⟨v, vs, [], [], rfl, rfl, k, h⟩
end

/-- the items of a list or tuple, none of which is owned -/
def items : D → Option (List D)
  | .tup xs => some xs
  | .lst false xs => some xs
  | .lst true xs => if xs.all notOwn then some xs else none
  | _ => none
@[simp] theorem items_tup (xs : List D) : items (.tup xs) = some xs := rfl
@[simp] theorem items_lf (xs : List D) : items (.lst false xs) = some xs := rfl
@[simp] theorem items_lt (xs : List D) : items (.lst true xs) = if xs.all notOwn then some xs else none := rfl
def isTup : D → Bool
  | .tup _ => true
  | _ => false
theorem Rel.items {P : Par} {W : Wd} {H : Hp} {O Ms : List Addr} {σ : St} {z : Z} (rl : Rel P W H O Ms σ z) {d : D} {ds : List D} {fp : List Addr} {v : V} (e : items d = some ds) (h : Den P W H fp v d) :
    ∃ a vs, v = .ref a ∧ DenL P W W.F [] vs ds ∧ ((isTup d = true ∧ H a = some (.tup vs) ∧ W.F a = some (.tup vs) ∧ fp = []) ∨ (isTup d = false ∧ H a = some (.lst vs))) := by
  match d, e with
  | .tup xs, e =>
    cases e
    obtain ⟨e0, a, vs, ev, ha, hl⟩ := den_tup_inv h
    exact ⟨a, vs, ev, hl, .inl ⟨rfl, rl.sub _ _ ha, ha, e0⟩⟩
  | .lst false xs, e =>
    cases e
    obtain ⟨_, a, vs, ev, ha, hl⟩ := den_lf_inv h
    exact ⟨a, vs, ev, hl, .inr ⟨rfl, rl.sub _ _ ha⟩⟩
  | .lst true xs, e =>
    obtain ⟨a, vs, fp', ev, ha, _, hl⟩ := den_lt_inv h
    by_cases n : xs.all notOwn = true
    · rw [items_lt, if_pos n] at e
      cases e
      have q := hl.notOwn n
      subst q
      exact ⟨a, vs, ev, hl.any, .inr ⟨rfl, ha⟩⟩
    · rw [items_lt, if_neg n] at e; cases e
theorem upd_free {H : Hp} {p b : Addr} {o : HO} (hp : H p = none) : (upd H p o) b = none → H b = none := fun e => by
  by_cases hb : b = p
  · rw [hb]; exact hp
  · rw [upd_ne hb] at e; exact e
theorem upd_keep {H : Hp} {p b : Addr} {o u : HO} (hp : H p = none) (e : H b = some u) : (upd H p o) b = some u := by rw [upd_ne (ne_of_none e hp)]; exact e
/-- a new thing that is fixed at once -/
def Wd.put (W : Wd) (p : Addr) (o : HO) : Wd := ⟨upd W.F p o, W.oas⟩
section
variable {P : Par} {W : Wd} {H : Hp} {O Ms : List Addr} {σ : St} {z : Z} {p : Addr}
theorem Rel.freeF (rl : Rel P W H O Ms σ z) {a : Addr} (h : H a = none) : W.F a = none := by
  cases e : W.F a with
  | none => rfl
  | some o => rw [rl.sub _ _ e] at h; cases h
theorem Rel.ownO (rl : Rel P W H O Ms σ z) {a : Addr} (h : H a = none) : a ∉ O := fun z => by
  obtain ⟨o, e, _⟩ := rl.env.own a z
  rw [h] at e; cases e
theorem Rel.ownM (rl : Rel P W H O Ms σ z) {a : Addr} (h : H a = none) : a ∉ Ms := fun z => rl.st.stands z h
/-- something new in the heap that is owned by nobody yet -/
theorem Rel.new (rl : Rel P W H O Ms σ z) (hp : H p = none) (o : HO) : Rel P W (upd H p o) O Ms σ z ∧ Stp Ms W W H (upd H p o) O O Ms Ms :=
  ⟨⟨fun a u e => upd_keep hp (rl.sub a u e), rl.env.mono (Wd.le.refl W) fun b _ u e => upd_keep hp e, rl.st.mono (Wd.le.refl W) fun b _ u e => upd_keep hp e, rl.nd, rl.off⟩,
   ⟨Wd.le.refl W, fun b u e _ => upd_keep hp e, fun b e => upd_free hp e, fun a e => .inl e, fun a h => .inl h, fun a h => .inl h⟩⟩
/-- something new that is fixed at once -/
theorem Rel.put (rl : Rel P W H O Ms σ z) (hp : H p = none) (o : HO) : Rel P (W.put p o) (upd H p o) O Ms σ z ∧ Stp Ms W (W.put p o) H (upd H p o) O O Ms Ms := by
  have hF := rl.freeF hp
  have le : W.le (W.put p o) := ⟨fun a u e => upd_keep hF e, fun _ _ e => e⟩
  refine ⟨⟨fun a u e => ?_, rl.env.mono le fun b _ u e => upd_keep hp e, rl.st.mono le fun b _ u e => upd_keep hp e, rl.nd, fun a ha => ?_⟩,
    ⟨le, fun b u e _ => upd_keep hp e, fun b e => upd_free hp e, fun a e => ?_, fun a h => .inl h, fun a h => .inl h⟩⟩
  · by_cases hb : a = p
    · subst hb
      have e' : upd W.F a o a = some u := e
      rw [upd_same] at e' ⊢; exact e'
    · have e' : upd W.F p o a = some u := e
      rw [upd_ne hb] at e' ⊢; exact rl.sub a u e'
  · have hb : a ≠ p := fun q => by
      subst q
      rcases List.mem_append.mp ha with h | h
      · exact rl.ownO hp h
      · exact rl.ownM hp h
    show upd W.F p o a = none
    rw [upd_ne hb]; exact rl.off a ha
  · by_cases hb : a = p
    · subst hb; exact .inr (.inr hp)
    · have e' : upd W.F p o a ≠ none := e
      rw [upd_ne hb] at e'; exact .inl e'
theorem Rel.tup (rl : Rel P W H O Ms σ z) (hp : H p = none) {vs : List V} {ds : List D} (hl : DenL P W H [] vs ds) :
    ∃ W', Rel P W' (upd H p (.tup vs)) O Ms σ z ∧ Stp Ms W W' H (upd H p (.tup vs)) O O Ms Ms ∧ Den P W' (upd H p (.tup vs)) [] (.ref p) (.tup ds) := by
  obtain ⟨r, s⟩ := rl.put hp (.tup vs)
  exact ⟨_, r, s, den_tup (show upd W.F p (.tup vs) p = _ from upd_same) (hl.mono s.le fun _ h => by simp at h)⟩
theorem Rel.lst0 (rl : Rel P W H O Ms σ z) (hp : H p = none) {vs : List V} {ds : List D} (hl : DenL P W H [] vs ds) :
    Rel P W (upd H p (.lst vs)) O Ms σ z ∧ Stp Ms W W H (upd H p (.lst vs)) O O Ms Ms ∧ Den P W (upd H p (.lst vs)) [p] (.ref p) (.lst true ds) ∧ Own H W O Ms [p] := by
  obtain ⟨r, s⟩ := rl.new hp (.lst vs)
  refine ⟨r, s, den_lt upd_same hl.any, ⟨by simp, fun a ha => ?_, fun a ha => ?_, fun a ha => ?_, fun a ha => ?_⟩⟩ <;> rw [List.mem_singleton] at ha <;> subst ha
  · exact hp
  · exact rl.freeF hp
  · exact rl.ownO hp
  · exact rl.ownM hp
end

/-! ### operations of data -/
def big : Nat := 16777216
theorem big_eq : sizeLine = big := sizeLine_eq
def mulI (i j : Int) : Option D := if (-18446744073709551616 < i ∧ i < 18446744073709551616) ∨ (-18446744073709551616 < j ∧ j < 18446744073709551616) then some (.int (i * j)) else none
def mulL (o : Bool) (xs : List D) (k : Int) : Option D := if (o = true → xs.all notOwn = true) ∧ -9223372036854775808 ≤ k ∧ k < 9223372036854775808 ∧ xs.length * k.toNat ≤ big then some (.lst true (List.replicate k.toNat xs).flatten) else none
def addS (a b : List Nat) : Option D := if a.length + b.length ≤ big then some (.str (a ++ b)) else none
def addT (a b : List D) : Option D := if a.length + b.length ≤ big then some (.tup (a ++ b)) else none
def addL (o : Bool) (a : List D) (u : Bool) (b : List D) : Option D := if a.length + b.length ≤ big ∧ (o = true → a.all notOwn = true) ∧ (u = true → b.all notOwn = true) then some (.lst true (a ++ b)) else none
def dAdd : D → D → Option D
  | .int i, .int j => some (.int (i + j))
  | .str a, .str b => addS a b
  | .tup a, .tup b => addT a b
  | .lst o a, .lst u b => addL o a u b
  | _, _ => none
def dSub : D → D → Option D
  | .int i, .int j => some (.int (i - j))
  | _, _ => none
def dMul : D → D → Option D
  | .int i, .int j => mulI i j
  | .lst o xs, .int k => mulL o xs k
  | _, _ => none
def dDiv : D → D → Option D
  | .int i, .int j => if 0 < j ∧ j < 1073741824 then some (.int (i / j)) else none
  | _, _ => none
def dMod : D → D → Option D
  | .int i, .int j => if 0 < j then some (.int (i % j)) else none
  | _, _ => none
def dPow : D → D → Option D
  | .int i, .int j => if 0 ≤ j ∧ j ≤ 1000000 ∧ i.natAbs < 18446744073709551616 then some (.int (i ^ j.toNat)) else none
  | _, _ => none
def dNeg : D → Option D
  | .int i => some (.int (-i))
  | _ => none
/-- how texts are ordered -/
def sLt : List Nat → List Nat → Bool
  | _, [] => false
  | [], _ :: _ => true
  | a :: x, b :: y => decide (a < b) || (decide (a = b) && sLt x y)
theorem sLt_eq : ∀ a b : List Nat, sLt a b = decide (a < b)
  | a, [] => by simp [sLt]
  | [], b :: y => by simp [sLt]
  | a :: x, b :: y => by
    unfold sLt
    rw [sLt_eq x y, Bool.eq_iff_iff]
    simp [List.cons_lt_cons_iff]
def dLt : D → D → Option D
  | .int i, .int j => some (.bl (decide (i < j)))
  | .str a, .str b => some (.bl (sLt a b))
  | _, _ => none
def dLe : D → D → Option D
  | .int i, .int j => some (.bl (decide (i ≤ j)))
  | .str a, .str b => some (.bl (!sLt b a))
  | _, _ => none
def dGt : D → D → Option D
  | .int i, .int j => some (.bl (decide (j < i)))
  | .str a, .str b => some (.bl (sLt b a))
  | _, _ => none
def dGe : D → D → Option D
  | .int i, .int j => some (.bl (decide (j ≤ i)))
  | .str a, .str b => some (.bl (!sLt a b))
  | _, _ => none
mutual
/-- == of data -/
def deq : D → D → Bool
  | .non, .non => true
  | .bl a, .bl b => a == b
  | .bl a, .int j => (if a then 1 else 0) == j
  | .int i, .bl b => i == (if b then 1 else 0)
  | .int i, .int j => i == j
  | .str x, .str y => x == y
  | .lst _ xs, .lst _ ys => deqL xs ys
  | .tup xs, .tup ys => deqL xs ys
  | _, _ => false
def deqL : List D → List D → Bool
  | [], [] => true
  | x :: xs, y :: ys => deq x y && deqL xs ys
  | _, _ => false
end
/-- plain data, at most n deep -/
def pd : Nat → D → Bool
  | _, .non => true
  | _, .bl _ => true
  | _, .int _ => true
  | _, .str _ => true
  | n + 1, .tup xs => xs.all (pd n)
  | n + 1, .lst _ xs => xs.all (pd n)
  | _, _ => false
def dEq (a b : D) : Option D := if pd 60 a = true ∧ pd 60 b = true then some (.bl (deq a b)) else none
def dNe (a b : D) : Option D := if pd 60 a = true ∧ pd 60 b = true then some (.bl (!deq a b)) else none
def isFlat : D → Bool
  | .non => true | .bl _ => true | .int _ => true | .str _ => true
  | _ => false
def dIn : D → D → Option D
  | .str [c], .str l => some (.bl (decide (c ∈ l)))
  | x, .lst _ ys => if pd 60 x = true ∧ pd 60 (.lst true ys) = true then some (.bl (ys.any fun y => deq y x)) else none
  | x, .tup ys => if isFlat x = true ∧ ys.all isFlat = true then some (.bl (ys.any fun y => deq y x)) else none
  | _, _ => none
def dNotIn (a b : D) : Option D := match dIn a b with
  | some (.bl k) => some (.bl (!k))
  | _ => none
def dIs : D → D → Option D
  | .bl a, .bl b => some (.bl (decide (a = b)))
  | .non, .non => some (.bl true)
  | x, .non => match x with
    | .exc _ _ => none
    | _ => some (.bl false)
  | _, _ => none
def dIsN (a : D) : Option D := dIs a .non

section
variable {X : Cx} {P : Par}
theorem OpD.or {g g1 g2 : D → D → Option D} {r1 r2 : R2} (h1 : OpD P g1 r1) (h2 : OpD P g2 r2) (h : ∀ a b d, g a b = some d → g1 a b = some d ∨ g2 a b = some d) : OpD P g (fun x y H Q => r1 x y H Q ∨ r2 x y H Q) := by
  constructor
  intro W H O Ms σ z x y da db d fa fb Q rl ha hb ma mb e k
  rcases h _ _ _ e with e | e
  · exact .inl (h1.run rl ha hb ma mb e k)
  · exact .inr (h2.run rl ha hb ma mb e k)
theorem OpD.or2 {g1 g2 : D → D → Option D} {r1 r2 : R2} (h1 : OpD P g1 r1) (h2 : OpD P g2 r2) : OpD P (fun a b => (g1 a b).or (g2 a b)) (fun x y H Q => r1 x y H Q ∨ r2 x y H Q) :=
  OpD.or h1 h2 fun a b d e => by
    cases q : g1 a b with
    | some x =>
      have e' : (g1 a b).or (g2 a b) = some d := e
      rw [q] at e'; exact .inl e'
    | none =>
      have e' : (g1 a b).or (g2 a b) = some d := e
      rw [q] at e'; exact .inr e'
/-- ints to a scalar -/
theorem opd_int {C : Int → Int → Prop} {g : Int → Int → Int} {f : D → D → Option D} (hf : ∀ a b d, f a b = some d → ∃ i j, a = .int i ∧ b = .int j ∧ C i j ∧ d = .int (g i j)) : OpD P f (rI C fun i j => .int (g i j)) := by
  constructor
  intro W H O Ms σ z x y da db d fa fb Q rl ha hb ma mb e k
  obtain ⟨i, j, rfl, rfl, c, rfl⟩ := hf _ _ _ e
  exact ⟨i, j, (den_int_inv ha).1, (den_int_inv hb).1, c, k _ W H [] rl .refl den_int .nil⟩
theorem opd_int0 {g : Int → Int → Int} {f : D → D → Option D} (hf : ∀ a b d, f a b = some d → ∃ i j, a = .int i ∧ b = .int j ∧ d = .int (g i j)) : OpD P f (rI0 fun i j => .int (g i j)) := by
  constructor
  intro W H O Ms σ z x y da db d fa fb Q rl ha hb ma mb e k
  obtain ⟨i, j, rfl, rfl, rfl⟩ := hf _ _ _ e
  exact ⟨i, j, (den_int_inv ha).1, (den_int_inv hb).1, k _ W H [] rl .refl den_int .nil⟩
theorem opd_bl0 {g : Int → Int → Bool} {f : D → D → Option D} (hf : ∀ a b d, f a b = some d → ∃ i j, a = .int i ∧ b = .int j ∧ d = .bl (g i j)) : OpD P f (rI0 fun i j => .bl (g i j)) := by
  constructor
  intro W H O Ms σ z x y da db d fa fb Q rl ha hb ma mb e k
  obtain ⟨i, j, rfl, rfl, rfl⟩ := hf _ _ _ e
  exact ⟨i, j, (den_int_inv ha).1, (den_int_inv hb).1, k _ W H [] rl .refl den_bl .nil⟩
theorem opd_sub : OpD P dSub (rI0 fun i j => .int (i - j)) := opd_int0 fun a b d e => by
  unfold dSub at e
  split at e
  · rename_i i j; cases e; exact ⟨i, j, rfl, rfl, rfl⟩
  · cases e
theorem opd_div : OpD P dDiv (rI CDiv fun i j => .int (i / j)) := opd_int fun a b d e => by
  unfold dDiv at e
  split at e
  · rename_i i j
    by_cases c : 0 < j ∧ j < 1073741824
    · rw [if_pos c] at e; cases e; exact ⟨i, j, rfl, rfl, c, rfl⟩
    · rw [if_neg c] at e; cases e
  · cases e
theorem opd_mod : OpD P dMod (rI (fun _ j => 0 < j) fun i j => .int (i % j)) := opd_int fun a b d e => by
  unfold dMod at e
  split at e
  · rename_i i j
    by_cases c : 0 < j
    · rw [if_pos c] at e; cases e; exact ⟨i, j, rfl, rfl, c, rfl⟩
    · rw [if_neg c] at e; cases e
  · cases e
theorem opd_pow : OpD P dPow (rI CPow fun i j => .int (i ^ j.toNat)) := opd_int fun a b d e => by
  unfold dPow at e
  split at e
  · rename_i i j
    by_cases c : 0 ≤ j ∧ j ≤ 1000000 ∧ i.natAbs < 18446744073709551616
    · rw [if_pos c] at e; cases e; exact ⟨i, j, rfl, rfl, c, rfl⟩
    · rw [if_neg c] at e; cases e
  · cases e
def dMulI : D → D → Option D
  | .int i, .int j => mulI i j
  | _, _ => none
theorem opd_mulI : OpD P dMulI (rI CMul fun i j => .int (i * j)) := opd_int fun a b d e => by
  unfold dMulI at e
  split at e
  · rename_i i j
    unfold mulI at e
    split at e
    · rename_i c; cases e; exact ⟨i, j, rfl, rfl, c, rfl⟩
    · cases e
  · cases e
def dMulL : D → D → Option D
  | .lst o xs, .int j => mulL o xs j
  | _, _ => none
theorem items_of {o : Bool} {xs : List D} (h : o = true → xs.all notOwn = true) : items (.lst o xs) = some xs := by
  cases o with
  | false => rfl
  | true => rw [items_lt, if_pos (h rfl)]
theorem denL_rep {W : Wd} {H : Hp} {vs : List V} {ds : List D} (h : DenL P W H [] vs ds) : ∀ n : Nat, DenL P W H [] (List.replicate n vs).flatten (List.replicate n ds).flatten
  | 0 => by simp [DenL]
  | n + 1 => by
    rw [List.replicate_succ, List.replicate_succ, List.flatten_cons, List.flatten_cons]
    exact h.append0 (denL_rep h n)
theorem rep_eq {xs : List V} {k : Int} {Q : VK} {H : Hp} (h : ∀ p, H p = none → Q (.ref p) (upd H p (.lst (List.replicate k.toNat xs).flatten))) : ∀ p, H p = none → Q (.ref p) (upd H p (.lst (List.replicate k.toNat xs).flatten)) := h
theorem opd_mulL : OpD P dMulL rRep := by
  constructor
  intro W H O Ms σ z x y da db d fa fb Q rl ha hb ma mb e k
  unfold dMulL at e
  split at e
  · rename_i o xs j
    unfold mulL at e
    split at e
    · rename_i c
      cases e
      obtain ⟨a, vs, ev, hl, hh⟩ := rl.items (items_of c.1) ha
      rcases hh with ⟨z, _⟩ | ⟨_, hh⟩
      · cases o <;> exact absurd z (by simp [isTup])
      · refine ⟨a, j, vs, ev, (den_int_inv hb).1, hh, c.2.1, c.2.2.1, by rw [hl.len, big_eq]; exact c.2.2.2, fun p hp => ?_⟩
        obtain ⟨r, s, dn, ow⟩ := rl.lst0 hp (denL_rep hl j.toNat).any
        exact k _ _ _ _ r s dn ow
    · cases e
  · cases e
theorem opd_mul : OpD P dMul (fun x y H Q => rI CMul (fun i j => .int (i * j)) x y H Q ∨ rRep x y H Q) := OpD.or opd_mulI opd_mulL fun a b d e => by
  match a, b, e with
  | .int i, .int j, e => exact .inl e
  | .lst o xs, .int j, e => exact .inr e
theorem op_mulD : OpR X (binaryOp .Mult) (fun x y H Q => rI CMul (fun i j => .int (i * j)) x y H Q ∨ rRep x y H Q) := op_mul.or op_rep

theorem okS_append {a b : List Nat} (ha : okS a = true) (hb : okS b = true) (h : a.length + b.length ≤ big) : okS (a ++ b) = true := by
  unfold okS at *
  simp only [Bool.and_eq_true, decide_eq_true_eq, List.all_append, List.length_append] at *
  exact ⟨h, ha.2, hb.2⟩
theorem sOf_append (a b : List Nat) : sOf a ++ sOf b = sOf (a ++ b) := by
  show Str.append _ _ = _
  unfold Str.append sOf
  simp
theorem sOf_len (a : List Nat) : (sOf a).length = a.length := by
  show (sOf a).cps.size = _
  simp
def dAddI : D → D → Option D
  | .int i, .int j => some (.int (i + j))
  | _, _ => none
def dAddS : D → D → Option D
  | .str i, .str j => addS i j
  | _, _ => none
def dAddT : D → D → Option D
  | .tup i, .tup j => addT i j
  | _, _ => none
def dAddL : D → D → Option D
  | .lst o i, .lst u j => addL o i u j
  | _, _ => none
theorem opd_addI : OpD P dAddI (rI0 fun i j => .int (i + j)) := opd_int0 fun a b d e => by
  unfold dAddI at e
  split at e
  · rename_i i j; cases e; exact ⟨i, j, rfl, rfl, rfl⟩
  · cases e
theorem opd_addS : OpD P dAddS (fun x y H Q => ∃ i j, x = .str i ∧ y = .str j ∧ i.length + j.length ≤ sizeLine ∧ Q (.str (i ++ j)) H) := by
  constructor
  intro W H O Ms σ z x y da db d fa fb Q rl ha hb ma mb e k
  unfold dAddS at e
  split at e
  · rename_i i j
    unfold addS at e
    split at e
    · rename_i c
      cases e
      obtain ⟨e1, _, o1⟩ := den_str_inv ha
      obtain ⟨e2, _, o2⟩ := den_str_inv hb
      refine ⟨sOf i, sOf j, e1, e2, by rw [sOf_len, sOf_len, big_eq]; exact c, ?_⟩
      rw [sOf_append]
      exact k _ W H [] rl .refl (den_str (okS_append o1 o2 c)) .nil
    · cases e
  · cases e
theorem opd_addT {K : PySem.W.Frag} : OpD P dAddT (rCatA K) := by
  constructor
  intro W H O Ms σ z x y da db d fa fb Q rl ha hb ma mb e k
  unfold dAddT at e
  split at e
  · rename_i i j
    unfold addT at e
    split at e
    · rename_i c
      cases e
      obtain ⟨_, a, vs, e1, h1, l1⟩ := den_tup_inv ha
      obtain ⟨_, b, ws, e2, h2, l2⟩ := den_tup_inv hb
      refine ⟨a, b, vs, ws, e1, e2, SqT.of (rl.sub _ _ h1), SqT.of (rl.sub _ _ h2), by rw [l1.len, l2.len, big_eq]; exact c, fun q => ?_, fun q1 q2 => ?_, fun q1 q2 p hp => ?_⟩
      · subst q
        have : i = [] := by have := l1.len; simpa using this.symm
        subst this
        exact k _ W H [] rl .refl (den_tup h2 l2) .nil
      · subst q2
        have : j = [] := by have := l2.len; simpa using this.symm
        subst this
        rw [List.append_nil] at k
        exact k _ W H [] rl .refl (den_tup h1 l1) .nil
      · obtain ⟨W', r, s, dn⟩ := rl.tup hp (l1.append0 l2).any
        exact k _ _ _ _ r s dn .nil
    · cases e
  · cases e
theorem opd_addL : OpD P dAddL rCat := by
  constructor
  intro W H O Ms σ z x y da db d fa fb Q rl ha hb ma mb e k
  unfold dAddL at e
  split at e
  · rename_i o i u j
    unfold addL at e
    split at e
    · rename_i c
      cases e
      obtain ⟨a, vs, ev, hl, hh⟩ := rl.items (items_of c.2.1) ha
      obtain ⟨b, ws, ew, hl2, hh2⟩ := rl.items (items_of c.2.2) hb
      rcases hh with ⟨z, _⟩ | ⟨_, hh⟩
      · cases o <;> exact absurd z (by simp [isTup])
      rcases hh2 with ⟨z, _⟩ | ⟨_, hh2⟩
      · cases u <;> exact absurd z (by simp [isTup])
      refine ⟨a, b, vs, ws, ev, ew, hh, hh2, by rw [hl.len, hl2.len, big_eq]; exact c.1, fun p hp => ?_⟩
      obtain ⟨r, s, dn, ow⟩ := rl.lst0 hp (hl.append0 hl2).any
      exact k _ _ _ _ r s dn ow
    · cases e
  · cases e
def rAddD (K : PySem.W.Frag) : R2 := fun x y H Q => (rI0 (fun i j => .int (i + j)) x y H Q ∨ (∃ i j, x = .str i ∧ y = .str j ∧ i.length + j.length ≤ sizeLine ∧ Q (.str (i ++ j)) H)) ∨ (rCatA K x y H Q ∨ rCat x y H Q)
theorem op_addD : OpR X (binaryOp .Add) (rAddD X.K) := (op_add.or op_add_str).or (op_catA.or op_cat)
theorem opd_add {K : PySem.W.Frag} : OpD P dAdd (rAddD K) :=
  OpD.or (OpD.or2 opd_addI opd_addS) (OpD.or2 opd_addT opd_addL)
    fun a b d e => by
      match a, b, e with
      | .int i, .int j, e => exact .inl e
      | .str i, .str j, e => exact .inl (by show (none : Option D).or (addS i j) = some d; have e' : addS i j = some d := e; rw [e']; rfl)
      | .tup i, .tup j, e =>
        refine .inr ?_
        show (addT i j).or none = some d
        have e' : addT i j = some d := e
        rw [e']; rfl
      | .lst o i, .lst u j, e => exact .inr (by show (none : Option D).or (addL o i u j) = some d; have e' : addL o i u j = some d := e; rw [e']; rfl)
end
end G

namespace G
open PySem L2
section
variable {X : Cx} {P : Par}
/-! ### order -/
def dBothI (g : Int → Int → Bool) : D → D → Option D
  | .int i, .int j => some (.bl (g i j))
  | _, _ => none
def dBothS (g : List Nat → List Nat → Bool) : D → D → Option D
  | .str i, .str j => some (.bl (g i j))
  | _, _ => none
theorem opd_bothI {g : Int → Int → Bool} : OpD P (dBothI g) (rI0 fun i j => .bl (g i j)) := opd_bl0 fun a b d e => by
  unfold dBothI at e
  split at e
  · rename_i i j; cases e; exact ⟨i, j, rfl, rfl, rfl⟩
  · cases e
theorem opd_bothS {g : List Nat → List Nat → Bool} {f : Str → Str → Bool} (h : ∀ a b, f (sOf a) (sOf b) = g a b) : OpD P (dBothS g) (fun x y H Q => ∃ i j, x = .str i ∧ y = .str j ∧ Q (.bl (f i j)) H) := by
  constructor
  intro W H O Ms σ z x y da db d fa fb Q rl ha hb ma mb e k
  unfold dBothS at e
  split at e
  · rename_i i j
    cases e
    refine ⟨_, _, (den_str_inv ha).1, (den_str_inv hb).1, ?_⟩
    rw [h]
    exact k _ W H [] rl .refl den_bl .nil
  · cases e
theorem op_ltD : OpR X (compareOp .Lt) (fun x y H Q => rI0 (fun i j => .bl (decide (i < j))) x y H Q ∨ ∃ i j, x = .str i ∧ y = .str j ∧ Q (.bl (decide (i.cps.toList < j.cps.toList))) H) := op_lt.or op_lt_str
theorem opd_lt : OpD P dLt (fun x y H Q => rI0 (fun i j => .bl (decide (i < j))) x y H Q ∨ ∃ i j, x = .str i ∧ y = .str j ∧ Q (.bl (decide (i.cps.toList < j.cps.toList))) H) :=
  OpD.or opd_bothI (opd_bothS (g := sLt) (f := fun i j => decide (i.cps.toList < j.cps.toList)) fun a b => by simp [sLt_eq]) fun a b d e => by
    match a, b, e with
    | .int _, .int _, e => exact .inl e
    | .str _, .str _, e => exact .inr e
theorem op_leD : OpR X (compareOp .LtE) (fun x y H Q => rI0 (fun i j => .bl (decide (i ≤ j))) x y H Q ∨ ∃ i j, x = .str i ∧ y = .str j ∧ Q (.bl (!decide (j.cps.toList < i.cps.toList))) H) := op_le.or op_le_str
theorem opd_le : OpD P dLe (fun x y H Q => rI0 (fun i j => .bl (decide (i ≤ j))) x y H Q ∨ ∃ i j, x = .str i ∧ y = .str j ∧ Q (.bl (!decide (j.cps.toList < i.cps.toList))) H) :=
  OpD.or opd_bothI (opd_bothS (g := fun a b => !sLt b a) (f := fun i j => !decide (j.cps.toList < i.cps.toList)) fun a b => by simp [sLt_eq]) fun a b d e => by
    match a, b, e with
    | .int _, .int _, e => exact .inl e
    | .str _, .str _, e => exact .inr e
theorem op_gtD : OpR X (compareOp .Gt) (fun x y H Q => rI0 (fun i j => .bl (decide (j < i))) x y H Q ∨ ∃ i j, x = .str i ∧ y = .str j ∧ Q (.bl (decide (j.cps.toList < i.cps.toList))) H) := op_gt.or op_gt_str
theorem opd_gt : OpD P dGt (fun x y H Q => rI0 (fun i j => .bl (decide (j < i))) x y H Q ∨ ∃ i j, x = .str i ∧ y = .str j ∧ Q (.bl (decide (j.cps.toList < i.cps.toList))) H) :=
  OpD.or opd_bothI (opd_bothS (g := fun a b => sLt b a) (f := fun i j => decide (j.cps.toList < i.cps.toList)) fun a b => by simp [sLt_eq]) fun a b d e => by
    match a, b, e with
    | .int _, .int _, e => exact .inl e
    | .str _, .str _, e => exact .inr e
theorem op_geD : OpR X (compareOp .GtE) (fun x y H Q => rI0 (fun i j => .bl (decide (j ≤ i))) x y H Q ∨ ∃ i j, x = .str i ∧ y = .str j ∧ Q (.bl (!decide (i.cps.toList < j.cps.toList))) H) := op_ge.or op_ge_str
theorem opd_ge : OpD P dGe (fun x y H Q => rI0 (fun i j => .bl (decide (j ≤ i))) x y H Q ∨ ∃ i j, x = .str i ∧ y = .str j ∧ Q (.bl (!decide (i.cps.toList < j.cps.toList))) H) :=
  OpD.or opd_bothI (opd_bothS (g := fun a b => !sLt a b) (f := fun i j => !decide (i.cps.toList < j.cps.toList)) fun a b => by simp [sLt_eq]) fun a b d e => by
    match a, b, e with
    | .int _, .int _, e => exact .inl e
    | .str _, .str _, e => exact .inr e

/-! ### == -/
mutual
def py : D → PyData
  | .non => .none
  | .bl b => .bool b
  | .int i => .int i
  | .str l => .str (sOf l)
  | .tup xs => .tuple (pyL xs)
  | .lst _ xs => .list (pyL xs)
  | _ => .none
def pyL : List D → List PyData
  | [] => []
  | d :: ds => py d :: pyL ds
end
theorem sOf_inj {a b : List Nat} : sOf a = sOf b ↔ a = b := by
  constructor
  · intro h
    have h' := congrArg (fun s : Str => s.cps.toList) h
    simpa using h'
  · rintro rfl; rfl
theorem str_beq {a b : List Nat} : (sOf a == sOf b) = (a == b) := by
  rw [Bool.eq_iff_iff]
  simp only [beq_iff_eq]
  exact sOf_inj
theorem eqv_deq : ∀ (n : Nat) (a b : D), pd n a = true → pd n b = true → PyData.eqv (py a) (py b) = deq a b := by
  have hL : ∀ n : Nat, (∀ a b : D, pd n a = true → pd n b = true → PyData.eqv (py a) (py b) = deq a b) → ∀ xs ys : List D, xs.all (pd n) = true → ys.all (pd n) = true → PyData.eqvAll (pyL xs) (pyL ys) = deqL xs ys := by
    intro n ih xs
    induction xs with
    | nil => intro ys _ _; cases ys <;> simp [pyL, deqL, PyData.eqvAll]
    | cons x xs ihx =>
      intro ys hx hy
      cases ys with
      | nil => simp [pyL, deqL, PyData.eqvAll]
      | cons y ys =>
        rw [List.all_cons, Bool.and_eq_true] at hx hy
        simp only [pyL, deqL, PyData.eqvAll]
        rw [ih x y hx.1 hy.1, ihx ys hx.2 hy.2]
  intro n
  induction n with
  | zero =>
    intro a b ha hb
    cases a <;> cases b <;> simp [pd] at ha hb <;> simp [py, deq, PyData.eqv, str_beq]
  | succ n ih =>
    intro a b ha hb
    cases a <;> cases b <;> simp only [pd] at ha hb <;> first | (exact absurd ha (by decide)) | (exact absurd hb (by decide)) | skip
    all_goals simp only [py, deq, PyData.eqv, str_beq]
    all_goals first | rfl | exact hL n ih _ _ ha hb
theorem okS_str {l : List Nat} (h : okS l = true) : PyData.canLay0 (.str (sOf l)) = true := by
  unfold okS at h
  simp only [Bool.and_eq_true, List.all_eq_true, decide_eq_true_eq] at h
  unfold PyData.canLay0 PyData.strOk
  simp only [Array.all_eq_true, decide_eq_true_eq, sOf]
  intro i hi
  have hm : (l.toArray[i]) ∈ l := by simp
  exact h.2 _ hm
theorem den_dp {K : PySem.W.Frag} {W : Wd} {H : Hp} (sub : ∀ a o, W.F a = some o → H a = some o) : ∀ (n : Nat) (d : D) (fp : List Addr) (v : V), pd n d = true → Den P W H fp v d → Dp K H v (py d) ∧ (py d).canLay0 = true ∧ (py d).depth ≤ n := by
  have hL : ∀ n : Nat, (∀ (d : D) (fp : List Addr) (v : V), pd n d = true → Den P W H fp v d → Dp K H v (py d) ∧ (py d).canLay0 = true ∧ (py d).depth ≤ n) →
      ∀ (ds : List D) (fp : List Addr) (vs : List V), ds.all (pd n) = true → DenL P W H fp vs ds → DpAll K H vs (pyL ds) ∧ PyData.canLayAll0 (pyL ds) = true ∧ PyData.depthAll (pyL ds) ≤ n := by
    intro n ih ds
    induction ds with
    | nil => intro fp vs _ h; rw [denL_nil] at h; rw [h.1]; exact ⟨by simp only [pyL]; exact .nil, by simp [pyL, PyData.canLayAll0], by simp [pyL, PyData.depthAll]⟩
    | cons d ds ihd =>
      intro fp vs ha h
      rw [denL_cons] at h
      obtain ⟨v, vs', fp1, fp2, e1, e2, h1, h2⟩ := h
      rw [List.all_cons, Bool.and_eq_true] at ha
      obtain ⟨a1, a2, a3⟩ := ih d fp1 v ha.1 h1
      obtain ⟨b1, b2, b3⟩ := ihd fp2 vs' ha.2 h2
      subst e1
      simp only [pyL, PyData.canLayAll0, PyData.depthAll]
      exact ⟨.cons a1 b1, by rw [a2, b2]; rfl, by omega⟩
  have base : ∀ (n : Nat) (d : D) (fp : List Addr) (v : V), isFlat d = true → Den P W H fp v d → Dp K H v (py d) ∧ (py d).canLay0 = true ∧ (py d).depth ≤ n := by
    intro n d fp v hd h
    match d, hd with
    | .non, _ => rw [(den_non_inv h).1]; simp only [py]; exact ⟨.non, by simp [PyData.canLay0], by simp [PyData.depth]⟩
    | .bl b, _ => rw [(den_blI h).1]; simp only [py]; exact ⟨.bl b, by simp [PyData.canLay0], by simp [PyData.depth]⟩
    | .int b, _ => rw [(den_int_inv h).1]; simp only [py]; exact ⟨.int b, by simp [PyData.canLay0], by simp [PyData.depth]⟩
    | .str b, _ =>
      obtain ⟨e1, _, e3⟩ := den_str_inv h
      rw [e1]; simp only [py]; exact ⟨.str _, okS_str e3, by simp [PyData.depth]⟩
  intro n
  induction n with
  | zero =>
    intro d fp v hd h
    match d, hd with
    | .non, _ => exact base 0 _ fp v rfl h
    | .bl b, _ => exact base 0 _ fp v rfl h
    | .int b, _ => exact base 0 _ fp v rfl h
    | .str b, _ => exact base 0 _ fp v rfl h
  | succ n ih =>
    intro d fp v hd h
    match d, hd with
    | .non, _ => exact base _ _ fp v rfl h
    | .bl b, _ => exact base _ _ fp v rfl h
    | .int b, _ => exact base _ _ fp v rfl h
    | .str b, _ => exact base _ _ fp v rfl h
    | .tup xs, hd =>
      simp only [pd] at hd
      obtain ⟨_, a, vs, e, ha, hl⟩ := den_tup_inv h
      obtain ⟨q1, q2, q3⟩ := hL n ih xs [] vs hd (hl.any)
      subst e
      simp only [py, PyData.canLay0, PyData.depth]
      exact ⟨.tup (SqT.of (sub _ _ ha)) q1, q2, by omega⟩
    | .lst false xs, hd =>
      simp only [pd] at hd
      obtain ⟨_, a, vs, e, ha, hl⟩ := den_lf_inv h
      obtain ⟨q1, q2, q3⟩ := hL n ih xs [] vs hd (hl.any)
      subst e
      simp only [py, PyData.canLay0, PyData.depth]
      exact ⟨.lst (SqL.of (sub _ _ ha)) q1, q2, by omega⟩
    | .lst true xs, hd =>
      simp only [pd] at hd
      obtain ⟨a, vs, fp', e, ha, _, hl⟩ := den_lt_inv h
      obtain ⟨q1, q2, q3⟩ := hL n ih xs fp' vs hd hl
      subst e
      simp only [py, PyData.canLay0, PyData.depth]
      exact ⟨.lst (SqL.of ha) q1, q2, by omega⟩
theorem shaped_of {d : PyData} {n : Nat} (h1 : d.canLay0 = true) (h2 : d.depth ≤ n) (hn : n ≤ 64) : SeqAt.shaped d = true := by
  unfold SeqAt.shaped
  rw [h1, decide_eq_true (Nat.le_trans h2 hn)]; rfl
theorem opd_eq {K : PySem.W.Frag} : OpD P dEq (rEqD K) := by
  constructor
  intro W H O Ms σ z x y da db d fa fb Q rl ha hb ma mb e k
  unfold dEq at e
  split at e
  · rename_i c
    cases e
    obtain ⟨a1, a2, a3⟩ := den_dp (K := K) rl.sub 60 da fa x c.1 ha
    obtain ⟨b1, b2, b3⟩ := den_dp (K := K) rl.sub 60 db fb y c.2 hb
    refine ⟨py da, py db, a1, b1, shaped_of a2 a3 (by omega), shaped_of b2 b3 (by omega), ?_⟩
    rw [eqv_deq 60 da db c.1 c.2]
    exact k _ W H [] rl .refl den_bl .nil
  · cases e
theorem opd_ne {K : PySem.W.Frag} : OpD P dNe (rNeD K) := by
  constructor
  intro W H O Ms σ z x y da db d fa fb Q rl ha hb ma mb e k
  unfold dNe at e
  split at e
  · rename_i c
    cases e
    obtain ⟨a1, a2, a3⟩ := den_dp (K := K) rl.sub 60 da fa x c.1 ha
    obtain ⟨b1, b2, b3⟩ := den_dp (K := K) rl.sub 60 db fb y c.2 hb
    refine ⟨py da, py db, a1, b1, shaped_of a2 a3 (by omega), shaped_of b2 b3 (by omega), ?_⟩
    rw [eqv_deq 60 da db c.1 c.2]
    exact k _ W H [] rl .refl den_bl .nil
  · cases e

/-! ### in -/
def rInA (K : PySem.W.Frag) : R2 := fun x y H Q => (∃ (c : Nat) (z : Str), x = .str ⟨#[c]⟩ ∧ y = .str z ∧ Q (.bl (decide (c ∈ z.cps.toList))) H) ∨ (rInD K x y H Q ∨ rIn K false x y H Q)
def rNotInA (K : PySem.W.Frag) : R2 := fun x y H Q => (∃ (c : Nat) (z : Str), x = .str ⟨#[c]⟩ ∧ y = .str z ∧ Q (.bl (!decide (c ∈ z.cps.toList))) H) ∨ (rNotInD K x y H Q ∨ rIn K true x y H Q)
theorem op_inA (hu : X.A.units + 65 < cLine) : OpR X (compareOp .In) (rInA X.K) := op_in_sign.or ((op_inD hu).or op_in_seq)
theorem op_notInA (hu : X.A.units + 65 < cLine) : OpR X (compareOp .NotIn) (rNotInA X.K) := op_notIn_sign.or ((op_notInD hu).or op_notIn_seq)
theorem eqV_deq {W : Wd} {H : Hp} {fa fb : List Addr} {x y : V} {da db : D} (fx : isFlat da = true) (fy : isFlat db = true) (ha : Den P W H fa x da) (hb : Den P W H fb y db) : flatV x = true ∧ flatV y = true ∧ eqV x y = deq da db := by
  have e1 : ∀ {f : List Addr} {v : V} {d : D}, isFlat d = true → Den P W H f v d → (d = .non ∧ v = .non) ∨ (∃ b, d = .bl b ∧ v = .bl b) ∨ (∃ i, d = .int i ∧ v = .int i) ∨ (∃ l, d = .str l ∧ v = .str (sOf l)) := by
    intro f v d hd h
    match d, hd with
    | .non, _ => exact .inl ⟨rfl, (den_non_inv h).1⟩
    | .bl b, _ => exact .inr (.inl ⟨b, rfl, (den_blI h).1⟩)
    | .int b, _ => exact .inr (.inr (.inl ⟨b, rfl, (den_int_inv h).1⟩))
    | .str b, _ => exact .inr (.inr (.inr ⟨b, rfl, (den_str_inv h).1⟩))
  rcases e1 fx ha with ⟨rfl, rfl⟩ | ⟨a, rfl, rfl⟩ | ⟨a, rfl, rfl⟩ | ⟨a, rfl, rfl⟩ <;> rcases e1 fy hb with ⟨rfl, rfl⟩ | ⟨b, rfl, rfl⟩ | ⟨b, rfl, rfl⟩ | ⟨b, rfl, rfl⟩ <;>
    refine ⟨rfl, rfl, ?_⟩ <;> simp [deq, eqV, str_beq]
theorem any_eqV {W : Wd} {H : Hp} {fx : List Addr} {x : V} {dx : D} (hx : Den P W H fx x dx) (hf : isFlat dx = true) : ∀ {ds : List D} {fp : List Addr} {vs : List V}, DenL P W H fp vs ds → ds.all isFlat = true → vs.all flatV = true ∧ inV x vs = ds.any fun y => deq y dx
  | [], _, _, h, _ => by rw [denL_nil] at h; rw [h.1]; exact ⟨rfl, rfl⟩
  | d :: ds, _, _, h, f => by
    rw [denL_cons] at h
    obtain ⟨v, vs', fp1, fp2, e1, e2, h1, h2⟩ := h
    rw [List.all_cons, Bool.and_eq_true] at f
    obtain ⟨q1, q2⟩ := any_eqV hx hf h2 f.2
    obtain ⟨p1, p2, p3⟩ := eqV_deq f.1 hf h1 hx
    subst e1
    refine ⟨by rw [List.all_cons, p1, q1]; rfl, ?_⟩
    show (v :: vs').any _ = _
    rw [List.any_cons, List.any_cons, p3]
    have q2' : (vs'.any fun y => eqV y x) = ds.any fun y => deq y dx := q2
    rw [q2']
theorem in_core {K : PySem.W.Frag} {W : Wd} {H : Hp} {O Ms : List Addr} {σ : St} {z : Z} {x y : V} {da db d : D} {fa fb : List Addr} (rl : Rel P W H O Ms σ z) (ha : Den P W H fa x da) (hb : Den P W H fb y db) (e : dIn da db = some d) :
    ∃ b, d = .bl b ∧ ((∃ c l, x = .str (sOf [c]) ∧ y = .str (sOf l) ∧ b = decide (c ∈ l)) ∨
      (∃ d' ds, Dp K H x d' ∧ Dp K H y (.list ds) ∧ SeqAt.shaped d' = true ∧ SeqAt.shaped (.list ds) = true ∧ b = ds.any fun z => PyData.eqv z d') ∨
      (∃ p xs, y = .ref p ∧ (SqL K H p xs ∨ SqT K H p xs) ∧ flatV x = true ∧ xs.all flatV = true ∧ b = inV x xs)) := by
  unfold dIn at e
  split at e
  · rename_i c l
    cases e
    exact ⟨_, rfl, .inl ⟨c, l, (den_str_inv ha).1, (den_str_inv hb).1, rfl⟩⟩
  · rename_i x' o ys
    split at e
    · rename_i c
      cases e
      refine ⟨_, rfl, .inr (.inl ?_)⟩
      obtain ⟨a1, a2, a3⟩ := den_dp (K := K) rl.sub 60 da fa x c.1 ha
      have c2 : pd 60 (.lst o ys) = true := by
        have := c.2
        simp only [pd] at this ⊢
        exact this
      obtain ⟨b1, b2, b3⟩ := den_dp (K := K) rl.sub 60 (.lst o ys) fb y c2 hb
      have e2 : py (.lst o ys) = .list (pyL ys) := by simp only [py]
      rw [e2] at b1 b2 b3
      refine ⟨py da, pyL ys, a1, b1, shaped_of a2 a3 (by omega), shaped_of b2 b3 (by omega), ?_⟩
      have hy : ys.all (pd 59) = true := by
        have := c.2
        simpa only [pd] using this
      have all : ∀ zs : List D, zs.all (pd 59) = true → (zs.any fun y => deq y da) = (pyL zs).any fun z => PyData.eqv z (py da) := by
        intro zs
        induction zs with
        | nil => intro _; rfl
        | cons w zs ih =>
          intro hz
          rw [List.all_cons, Bool.and_eq_true] at hz
          rw [pyL, List.any_cons, List.any_cons, ih hz.2]
          have mono : ∀ (n : Nat) (d : D), pd n d = true → pd (n + 1) d = true := by
            intro n
            induction n with
            | zero =>
              intro d hd
              cases d <;> simp [pd] at hd ⊢
            | succ n ihn =>
              intro d hd
              cases d <;> simp only [pd] at hd ⊢ <;> first | (exact absurd hd (by decide)) | skip
              all_goals
                rw [List.all_eq_true] at hd ⊢
                exact fun q hq => ihn q (hd q hq)
          rw [eqv_deq 60 w da (mono 59 w hz.1) c.1]
      exact all ys hy
    · cases e
  · rename_i x' ys
    split at e
    · rename_i c
      cases e
      refine ⟨_, rfl, .inr (.inr ?_)⟩
      obtain ⟨_, a, vs, ev, hh, hl⟩ := den_tup_inv hb
      obtain ⟨q1, q2⟩ := any_eqV ha c.1 (hl.any) c.2
      refine ⟨a, vs, ev, .inr (SqT.of (rl.sub _ _ hh)), ?_, q1, q2.symm⟩
      have : ∀ {f : List Addr} {v : V} {d : D}, isFlat d = true → Den P W H f v d → flatV v = true := by
        intro f v d hd h
        exact (eqV_deq hd hd h h).1
      exact this c.1 ha
    · cases e
  · cases e
theorem opd_in {K : PySem.W.Frag} : OpD P dIn (rInA K) := by
  constructor
  intro W H O Ms σ z x y da db d fa fb Q rl ha hb ma mb e k
  obtain ⟨b, rfl, h⟩ := in_core (K := K) rl ha hb e
  have q : Q (.bl b) H := k _ W H [] rl .refl den_bl .nil
  rcases h with ⟨c, l, e1, e2, rfl⟩ | ⟨d', ds, h1, h2, h3, h4, rfl⟩ | ⟨p, xs, h1, h2, h3, h4, rfl⟩
  · exact .inl ⟨c, sOf l, e1, e2, by simpa using q⟩
  · exact .inr (.inl ⟨d', ds, h1, h2, h3, h4, q⟩)
  · exact .inr (.inr ⟨p, xs, h1, h2, h3, h4, q⟩)
theorem opd_notIn {K : PySem.W.Frag} : OpD P dNotIn (rNotInA K) := by
  constructor
  intro W H O Ms σ z x y da db d fa fb Q rl ha hb ma mb e k
  unfold dNotIn at e
  split at e
  · rename_i k0 e0
    cases e
    obtain ⟨b, eb, h⟩ := in_core (K := K) rl ha hb e0
    cases eb
    have q : Q (.bl (!k0)) H := k _ W H [] rl .refl den_bl .nil
    rcases h with ⟨c, l, e1, e2, rfl⟩ | ⟨d', ds, h1, h2, h3, h4, rfl⟩ | ⟨p, xs, h1, h2, h3, h4, rfl⟩
    · exact .inl ⟨c, sOf l, e1, e2, by simpa using q⟩
    · exact .inr (.inl ⟨d', ds, h1, h2, h3, h4, q⟩)
    · exact .inr (.inr ⟨p, xs, h1, h2, h3, h4, by simpa using q⟩)
  · cases e
end
end G

namespace G
open PySem L2
section
variable {X : Cx} {P : Par} {Wx : WX} {a b c e o : Expr} {es rest : List Expr} {Fa Fb Fc F : M D} {Fs : M (List D)} {pos : Pos}
/-! ### is -/
def isNon : D → Bool
  | .non => true
  | _ => false
def dIsX : D → D → Option D
  | .bl a, .bl b => some (.bl (decide (a = b)))
  | x, .non => some (.bl (isNon x))
  | _, _ => none
def dIsNotX : D → D → Option D
  | .bl a, .bl b => some (.bl (!decide (a = b)))
  | x, .non => some (.bl (!isNon x))
  | _, _ => none
theorem den_isNon {W : Wd} {H : Hp} {f : List Addr} {x : V} {d : D} (h : Den P W H f x d) : decide (x = .non) = isNon d := by
  match d with
  | .non => rw [(den_non_inv h).1]; rfl
  | .bl b => rw [(den_blI h).1]; rfl
  | .int b => rw [(den_int_inv h).1]; rfl
  | .str b => rw [(den_str_inv h).1]; rfl
  | .tup b => obtain ⟨_, a, vs, e, _⟩ := den_tup_inv h; rw [e]; rfl
  | .lst false b => obtain ⟨_, a, vs, e, _⟩ := den_lf_inv h; rw [e]; rfl
  | .lst true b => obtain ⟨a, vs, _, e, _⟩ := den_lt_inv h; rw [e]; rfl
  | .dic false k b => simp only [Den] at h; obtain ⟨_, a, vs, e, _⟩ := h; rw [e]; rfl
  | .dic true k b => simp only [Den] at h; obtain ⟨a, vs, _, e, _⟩ := h; rw [e]; rfl
  | .obj n => simp only [Den] at h; obtain ⟨_, a, _, e⟩ := h; rw [e]; rfl
  | .exc c fs => simp only [Den] at h; obtain ⟨_, a, e, _⟩ := h; rw [e]; rfl
def dIs2 : D → D → Option D
  | .bl a, .bl b => some (.bl (decide (a = b)))
  | _, _ => none
def dIs1 : D → D → Option D
  | x, .non => some (.bl (isNon x))
  | _, _ => none
def dIsN2 : D → D → Option D
  | .bl a, .bl b => some (.bl (!decide (a = b)))
  | _, _ => none
def dIsN1 : D → D → Option D
  | x, .non => some (.bl (!isNon x))
  | _, _ => none
theorem opd_is2 : OpD P dIs2 rIsB := by
  constructor
  intro W H O Ms σ z x y da db d fa fb Q rl ha hb ma mb e k
  match da, db, e with
  | .bl a, .bl b, e => cases e; exact ⟨a, b, (den_blI ha).1, (den_blI hb).1, k _ W H [] rl .refl den_bl .nil⟩
theorem opd_is1 : OpD P dIs1 (fun x y H Q => y = .non ∧ Q (.bl (decide (x = .non))) H) := by
  constructor
  intro W H O Ms σ z x y da db d fa fb Q rl ha hb ma mb e k
  match db, e with
  | .non, e =>
    cases e
    refine ⟨(den_non_inv hb).1, ?_⟩
    rw [den_isNon ha]
    exact k _ W H [] rl .refl den_bl .nil
theorem opd_isN2 : OpD P dIsN2 rNotB := by
  constructor
  intro W H O Ms σ z x y da db d fa fb Q rl ha hb ma mb e k
  match da, db, e with
  | .bl a, .bl b, e => cases e; exact ⟨a, b, (den_blI ha).1, (den_blI hb).1, k _ W H [] rl .refl den_bl .nil⟩
theorem opd_isN1 : OpD P dIsN1 (fun x y H Q => y = .non ∧ Q (.bl (!decide (x = .non))) H) := by
  constructor
  intro W H O Ms σ z x y da db d fa fb Q rl ha hb ma mb e k
  match db, e with
  | .non, e =>
    cases e
    refine ⟨(den_non_inv hb).1, ?_⟩
    rw [den_isNon ha]
    exact k _ W H [] rl .refl den_bl .nil
theorem op_isD : OpR X (compareOp .Is) (fun x y H Q => rIsB x y H Q ∨ (y = .non ∧ Q (.bl (decide (x = .non))) H)) := op_isBl.or op_isN
theorem op_isNotD : OpR X (compareOp .IsNot) (fun x y H Q => rNotB x y H Q ∨ (y = .non ∧ Q (.bl (!decide (x = .non))) H)) := op_notBl.or op_notN
theorem opd_is : OpD P dIsX (fun x y H Q => rIsB x y H Q ∨ (y = .non ∧ Q (.bl (decide (x = .non))) H)) := OpD.or opd_is2 opd_is1 fun a b d e => by
  unfold dIsX at e
  split at e
  · exact .inl e
  · exact .inr e
  · cases e
theorem opd_isNot : OpD P dIsNotX (fun x y H Q => rNotB x y H Q ∨ (y = .non ∧ Q (.bl (!decide (x = .non))) H)) := OpD.or opd_isN2 opd_isN1 fun a b d e => by
  unfold dIsNotX at e
  split at e
  · exact .inl e
  · exact .inr e
  · cases e

/-! ### -x -/
theorem und_neg : UnD P dNeg (rU fun i => .int (-i)) := by
  constructor
  intro W H O Ms σ z x da d fa Q rl ha ma e k
  match da, e with
  | .int i, e => cases e; exact ⟨i, (den_int_inv ha).1, k _ W H [] rl .refl den_int .nil⟩
theorem j_neg (ha : JB X P Wx a Fa) : JE X P Wx (.UnaryOp .USub a pos) (fUn dNeg Fa) := by
  obtain ⟨ta, pa, ka⟩ := ha
  exact ⟨_, pe_un un_neg pa, run1 und_neg ka⟩

/-! ### truth -/
def tru : D → Option Bool
  | .non => some false
  | .bl b => some b
  | .int i => some (i != 0)
  | .str l => some (!l.isEmpty)
  | .tup xs => some (!xs.isEmpty)
  | .lst _ xs => some (!xs.isEmpty)
  | _ => none
def fTru (F : M D) : M Bool := bnd F fun d => lift (tru d)
theorem den_tru {K : PySem.W.Frag} {W : Wd} {H : Hp} {f : List Addr} {x : V} {d : D} {k : Bool} (sub : ∀ a o, W.F a = some o → H a = some o) (h : Den P W H f x d) (e : tru d = some k) : TruV K x H k := by
  match d, e with
  | .non, e => cases e; rw [(den_non_inv h).1]; rfl
  | .bl b, e => cases e; rw [(den_blI h).1]; rfl
  | .int b, e => cases e; rw [(den_int_inv h).1]; rfl
  | .str l, e =>
    cases e
    obtain ⟨e1, _, e3⟩ := den_str_inv h
    rw [e1]
    unfold okS at e3
    simp only [Bool.and_eq_true, decide_eq_true_eq] at e3
    refine ⟨by rw [sOf_len, big_eq]; exact e3.1, ?_⟩
    rw [sOf_len]
    cases l <;> simp <;> omega
  | .tup xs, e =>
    cases e
    obtain ⟨_, a, vs, e1, ha, hl⟩ := den_tup_inv h
    rw [e1]
    refine .inr (.inl ⟨vs, SqT.of (sub _ _ ha), ?_⟩)
    have := hl.len
    cases vs <;> cases xs <;> simp at this ⊢
  | .lst false xs, e =>
    cases e
    obtain ⟨_, a, vs, e1, ha, hl⟩ := den_lf_inv h
    rw [e1]
    refine .inl ⟨vs, SqL.of (sub _ _ ha), ?_⟩
    have := hl.len
    cases vs <;> cases xs <;> simp at this ⊢
  | .lst true xs, e =>
    cases e
    obtain ⟨a, vs, fp', e1, ha, _, hl⟩ := den_lt_inv h
    rw [e1]
    refine .inl ⟨vs, SqL.of ha, ?_⟩
    have := hl.len
    cases vs <;> cases xs <;> simp at this ⊢
theorem jt_truth (ha : JB X P Wx a Fa) (he : ∀ whole, isTrue a X.env whole = (do let v ← whole; standAt a.pos; holding [v] (truthy v)) := by intro _; rfl) : JT X P Wx a (fTru Fa) := by
  obtain ⟨ta, pa, ka⟩ := ha
  refine ⟨_, pt_truth pa he, fun z W H O Ms σ Q rl p => ?_⟩
  refine ka z W H O Ms σ _ rl (p.bind.mono fun d z1 W1 H1 O1 M1 rl1 st1 ⟨_, _, p1⟩ v fp hd ho => ?_)
  obtain ⟨k, ek, hk⟩ := Post.lift rl1 p1
  exact ⟨k, den_tru rl1.sub hd ek, hk⟩
def fNotT (F : M Bool) : M Bool := bnd F fun b => ret (!b)
def fAndT (Fa Fb : M Bool) : M Bool := bnd Fa fun b => if b then Fb else ret false
def fOrT (Fa Fb : M Bool) : M Bool := bnd Fa fun b => if b then ret true else Fb
variable {Ta Tb : M Bool}
theorem jt_not (ha : JT X P Wx a Ta) : JT X P Wx (.UnaryOp .Not a pos) (fNotT Ta) := by
  obtain ⟨ta, pa, ka⟩ := ha
  refine ⟨_, pt_not pa, fun z W H O Ms σ Q rl p => ?_⟩
  exact ka z W H O Ms σ _ rl (p.bind.mono fun d z1 W1 H1 O1 M1 rl1 st1 ⟨_, _, p1⟩ => p1 _ _ _ _ rl1 .refl)
theorem jw_and1 (ha : JT X P Wx a Ta) : JW X P Wx (.BoolOp .And [a] pos) Ta := by
  obtain ⟨ta, pa, ka⟩ := ha
  exact ⟨_, pw_and1 pa, ka⟩
theorem jw_or1 (ha : JT X P Wx a Ta) : JW X P Wx (.BoolOp .Or [a] pos) Ta := by
  obtain ⟨ta, pa, ka⟩ := ha
  exact ⟨_, pw_or1 pa, ka⟩
theorem jw_and (ha : JT X P Wx a Ta) (hb : JW X P Wx (.BoolOp .And (b :: rest) pos) Tb) : JW X P Wx (.BoolOp .And (a :: b :: rest) pos) (fAndT Ta Tb) := by
  obtain ⟨ta, pa, ka⟩ := ha
  obtain ⟨tb, pb, kb⟩ := hb
  refine ⟨_, pw_and pa pb, fun z W H O Ms σ Q rl p => ?_⟩
  refine ka z W H O Ms σ _ rl (p.bind.mono fun d z1 W1 H1 O1 M1 rl1 st1 ⟨_, _, p1⟩ => ?_)
  cases d with
  | true => exact kb z1 W1 H1 O1 M1 σ _ rl1 p1
  | false => exact p1 _ _ _ _ rl1 .refl
theorem jw_or (ha : JT X P Wx a Ta) (hb : JW X P Wx (.BoolOp .Or (b :: rest) pos) Tb) : JW X P Wx (.BoolOp .Or (a :: b :: rest) pos) (fOrT Ta Tb) := by
  obtain ⟨ta, pa, ka⟩ := ha
  obtain ⟨tb, pb, kb⟩ := hb
  refine ⟨_, pw_or pa pb, fun z W H O Ms σ Q rl p => ?_⟩
  refine ka z W H O Ms σ _ rl (p.bind.mono fun d z1 W1 H1 O1 M1 rl1 st1 ⟨_, _, p1⟩ => ?_)
  cases d with
  | true => exact p1 _ _ _ _ rl1 .refl
  | false => exact kb z1 W1 H1 O1 M1 σ _ rl1 p1
theorem JW.t (h : JW X P Wx e Ta) : JT X P Wx e Ta := by
  obtain ⟨te, p, k⟩ := h
  exact ⟨te, p.pt, k⟩
/-! and, or, not as values; the conditional expression -/
def fNotV (F : M D) : M D := bnd F fun d => lift ((tru d).map fun b => .bl (!b))
theorem j_not (ha : JB X P Wx a Fa) : JE X P Wx (.UnaryOp .Not a pos) (fNotV Fa) := by
  obtain ⟨ta, pa, ka⟩ := ha
  refine ⟨_, pe_notT pa, fun z W H O Ms σ Q rl p => ?_⟩
  refine ka z W H O Ms σ _ rl (p.bind.mono fun d z1 W1 H1 O1 M1 rl1 st1 ⟨_, _, p1⟩ v fp hd ho => ?_)
  obtain ⟨k, ek, hk⟩ := Post.lift rl1 p1
  cases et : tru d with
  | none => rw [et] at ek; cases ek
  | some bb =>
    rw [et] at ek
    cases ek
    exact ⟨bb, den_tru rl1.sub hd et, hk _ [] den_bl .nil⟩
def fAndV (Fa Fb : M D) : M D := bnd Fa fun d => bnd (lift (tru d)) fun b => if b then Fb else ret d
def fOrV (Fa Fb : M D) : M D := bnd Fa fun d => bnd (lift (tru d)) fun b => if b then ret d else Fb
theorem j_one {op} (ha : JE X P Wx a Fa) : JE X P Wx (.BoolOp op [a] pos) Fa := by
  obtain ⟨ta, pa, ka⟩ := ha
  exact ⟨_, pe_one pa, ka⟩
theorem j_and (ha : JE X P Wx a Fa) (hb : JE X P Wx (.BoolOp .And (b :: rest) pos) Fb) : JE X P Wx (.BoolOp .And (a :: b :: rest) pos) (fAndV Fa Fb) := by
  obtain ⟨ta, pa, ka⟩ := ha
  obtain ⟨tb, pb, kb⟩ := hb
  refine ⟨_, pe_andT pa pb, fun z W H O Ms σ Q rl p => ?_⟩
  refine ka z W H O Ms σ _ rl (p.bind.mono fun d z1 W1 H1 O1 M1 rl1 st1 ⟨_, _, p1⟩ v fp hd ho => ?_)
  obtain ⟨k, ek, hk⟩ := Post.lift rl1 (Post.bind p1)
  refine ⟨k, den_tru rl1.sub hd ek, ?_⟩
  obtain ⟨_, _, hk⟩ := hk
  cases k with
  | true =>
    rw [if_pos rfl]
    exact kb z1 W1 H1 O1 M1 σ _ rl1 (Post.mono hk fun d z2 W2 H2 O2 M2 rl2 st2 q v fp h1 h2 => q v fp h1 (h2.old st1.dom))
  | false =>
    rw [if_neg (by decide)]
    exact hk _ _ _ _ rl1 .refl v fp hd ho
theorem j_or (ha : JE X P Wx a Fa) (hb : JE X P Wx (.BoolOp .Or (b :: rest) pos) Fb) : JE X P Wx (.BoolOp .Or (a :: b :: rest) pos) (fOrV Fa Fb) := by
  obtain ⟨ta, pa, ka⟩ := ha
  obtain ⟨tb, pb, kb⟩ := hb
  refine ⟨_, pe_orT pa pb, fun z W H O Ms σ Q rl p => ?_⟩
  refine ka z W H O Ms σ _ rl (p.bind.mono fun d z1 W1 H1 O1 M1 rl1 st1 ⟨_, _, p1⟩ v fp hd ho => ?_)
  obtain ⟨k, ek, hk⟩ := Post.lift rl1 (Post.bind p1)
  refine ⟨k, den_tru rl1.sub hd ek, ?_⟩
  obtain ⟨_, _, hk⟩ := hk
  cases k with
  | false =>
    rw [if_neg (by decide)]
    exact kb z1 W1 H1 O1 M1 σ _ rl1 (Post.mono hk fun d z2 W2 H2 O2 M2 rl2 st2 q v fp h1 h2 => q v fp h1 (h2.old st1.dom))
  | true =>
    rw [if_pos rfl]
    exact hk _ _ _ _ rl1 .refl v fp hd ho
def fIf {α : Type} (T : M Bool) (Fa Fb : M α) : M α := bnd T fun b => if b then Fa else Fb
theorem j_if (hc : JT X P Wx c Ta) (ha : JE X P Wx a Fa) (hb : JE X P Wx b Fb) : JE X P Wx (.IfExp c a b pos) (fIf Ta Fa Fb) := by
  obtain ⟨tc, pc, kc⟩ := hc
  obtain ⟨ta, pa, ka⟩ := ha
  obtain ⟨tb, pb, kb⟩ := hb
  refine ⟨_, pe_ifExp pc pa pb, fun z W H O Ms σ Q rl p => ?_⟩
  refine kc z W H O Ms σ _ rl (p.bind.mono fun d z1 W1 H1 O1 M1 rl1 st1 ⟨_, _, p1⟩ => ?_)
  have later : ∀ {t : M D}, Post P Wx σ W1 H1 O1 M1 (KE P H Q) (t z1) → Post P Wx σ W1 H1 O1 M1 (KE P H1 Q) (t z1) := fun h => Post.mono h fun d z2 W2 H2 O2 M2 rl2 st2 q v fp h1 h2 => q v fp h1 (h2.old st1.dom)
  cases d with
  | true => exact ka z1 W1 H1 O1 M1 σ _ rl1 (later (t := Fa) p1)
  | false => exact kb z1 W1 H1 O1 M1 σ _ rl1 (later (t := Fb) p1)

/-! ### lists of expressions -/
def fNil : M (List D) := ret []
def fCons (Fa : M D) (Fs : M (List D)) : M (List D) := bnd Fa fun d => bnd Fs fun ds => ret (d :: ds)
theorem jbs_nil : JBs X P Wx [] fNil := ⟨_, pa_nil, fun z W H O Ms σ Q rl p => p _ _ _ _ rl .refl [] .nil⟩
theorem jbs_cons (ha : JB X P Wx e Fa) (hs : JBs X P Wx es Fs) (h : starEach (e :: es) X.env = (false, eval e X.env) :: starEach es X.env := by rfl) : JBs X P Wx (e :: es) (fCons Fa Fs) := by
  obtain ⟨ta, pa, ka⟩ := ha
  obtain ⟨ts, ps, ks⟩ := hs
  refine ⟨_, pa_cons pa ps h, fun z W H O Ms σ Q rl p => ?_⟩
  refine ka z W H O Ms σ _ rl (p.bind.mono fun d z1 W1 H1 O1 M1 rl1 st1 ⟨_, _, p1⟩ v fp hd ho => ?_)
  refine ks z1 W1 H1 O1 M1 σ _ rl1 ((Post.bind p1).mono fun ds z2 W2 H2 O2 M2 rl2 st2 ⟨_, _, p2⟩ vs hvs => ?_)
  exact p2 _ _ _ _ rl2 .refl (v :: vs) (.cons ⟨fp, hd.keepE st2 ho⟩ hvs)
theorem jes_nil : JEs X P Wx [] fNil := ⟨_, pa_nil, fun z W H O Ms σ Q rl p => p _ _ _ _ rl .refl [] [] DenL.nil .nil⟩
theorem jes_cons (ha : JE X P Wx e Fa) (hs : JEs X P Wx es Fs) (h : starEach (e :: es) X.env = (false, eval e X.env) :: starEach es X.env := by rfl) : JEs X P Wx (e :: es) (fCons Fa Fs) := by
  obtain ⟨ta, pa, ka⟩ := ha
  obtain ⟨ts, ps, ks⟩ := hs
  refine ⟨_, pa_cons pa ps h, fun z W H O Ms σ Q rl p => ?_⟩
  refine ka z W H O Ms σ _ rl (p.bind.mono fun d z1 W1 H1 O1 M1 rl1 st1 ⟨_, _, p1⟩ v fp hd ho => ?_)
  refine ks z1 W1 H1 O1 M1 σ _ rl1 ((Post.bind p1).mono fun ds z2 W2 H2 O2 M2 rl2 st2 ⟨_, _, p2⟩ vs fps hvs hos => ?_)
  have hs1 : ∀ a ∈ fp, H1 a ≠ none := fun a ha => hd.stands ha
  have o1 : Own H W2 O2 M2 fp := ho.step hs1 st2
  have o2 : Own H W2 O2 M2 fps := hos.old st1.dom
  refine p2 _ _ _ _ rl2 .refl (v :: vs) (fp ++ fps) ?_ ⟨?_, ?_, ?_, ?_, ?_⟩
  · rw [denL_cons]
    exact ⟨v, vs, fp, fps, rfl, rfl, (hd.keepE st2 ho.oM).1, hvs⟩
  · refine List.nodup_append.mpr ⟨o1.nd, o2.nd, fun a ha b hb q => ?_⟩
    subst q
    exact hs1 a ha (hos.new a hb)
  · exact fun a ha => (List.mem_append.mp ha).elim (o1.new a) (o2.new a)
  · exact fun a ha => (List.mem_append.mp ha).elim (o1.oF a) (o2.oF a)
  · exact fun a ha => (List.mem_append.mp ha).elim (o1.oO a) (o2.oO a)
  · exact fun a ha => (List.mem_append.mp ha).elim (o1.oM a) (o2.oM a)

/-- what is owned and new may be fixed -/
theorem Rel.fix {W : Wd} {H H0 : Hp} {O Ms fp : List Addr} {σ : St} {z : Z} (rl : Rel P W H O Ms σ z) (hs : ∀ a ∈ fp, H a ≠ none) (ow : Own H0 W O Ms fp) :
    Rel P (W.add H fp) H O Ms σ z := by
  have le : W.le (W.add H fp) := Wd.add_le ow.oF
  refine ⟨fun a o ea => ?_, rl.env.mono le fun _ _ _ e => e, rl.st.mono le fun _ _ _ e => e, rl.nd, fun a ha => ?_⟩
  · by_cases hm : a ∈ fp
    · rw [Wd.add_at hm] at ea; exact ea
    · rw [Wd.add_off hm] at ea; exact rl.sub a o ea
  · have hm : a ∉ fp := fun z => (List.mem_append.mp ha).elim (ow.oO a z) (ow.oM a z)
    rw [Wd.add_off hm]; exact rl.off a ha
theorem Stp.fix {Z : List Addr} {W W1 : Wd} {H H1 : Hp} {O O1 M M1 fp : List Addr} (s : Stp Z W W1 H H1 O O1 M M1) (ow : Own H W1 O1 M1 fp) : Stp Z W (W1.add H1 fp) H H1 O O1 M M1 :=
  ⟨s.le.trans (Wd.add_le ow.oF), s.keep, s.dom, fun a ha => by
    by_cases hm : a ∈ fp
    · exact .inr (.inr (ow.new a hm))
    · rw [Wd.add_off hm] at ha; exact s.fF a ha, s.fO, s.fM⟩

/-! ### displays -/
def fTup (Fs : M (List D)) : M D := bnd Fs fun ds => if ds.length ≤ big then ret (.tup (ds.map frz)) else lift none
def fLst (Fs : M (List D)) : M D := bnd Fs fun ds => if ds.length ≤ big then ret (.lst true ds) else lift none
theorem j_lst (hs : JEs X P Wx es Fs) : JE X P Wx (.List es pos) (fLst Fs) := by
  obtain ⟨ts, ps, ks⟩ := hs
  refine ⟨_, pe_lst ps, fun z W H O Ms σ Q rl p => ?_⟩
  refine ks z W H O Ms σ _ rl (p.bind.mono fun ds z1 W1 H1 O1 M1 rl1 st1 ⟨_, _, p1⟩ vs fp hd ho => ?_)
  split at p1
  · rename_i hz
    refine ⟨by rw [hd.len, big_eq]; exact hz, fun q hq => ?_⟩
    obtain ⟨r, s⟩ := rl1.new hq (.lst vs)
    have hs1 : ∀ a ∈ fp, H1 a ≠ none := fun a ha => hd.stands ha
    have hqn : q ∉ fp := fun z => hs1 q z hq
    have o1 := ho.step hs1 s
    refine p1 _ _ _ _ r s (.ref q) (q :: fp) (den_lt upd_same (hd.mono (Wd.le.refl _) fun a ha o e => upd_keep hq e)) ⟨?_, ?_, ?_, ?_, ?_⟩
    · exact List.nodup_cons.mpr ⟨hqn, ho.nd⟩
    · exact fun a ha => (List.mem_cons.mp ha).elim (fun e => by rw [e]; exact st1.dom q hq) (o1.new a)
    · exact fun a ha => (List.mem_cons.mp ha).elim (fun e => by rw [e]; exact rl1.freeF hq) (o1.oF a)
    · exact fun a ha => (List.mem_cons.mp ha).elim (fun e => by rw [e]; exact rl1.ownO hq) (o1.oO a)
    · exact fun a ha => (List.mem_cons.mp ha).elim (fun e => by rw [e]; exact rl1.ownM hq) (o1.oM a)
  · exact p1.elim
theorem j_tup {x1} (hs : JEs X P Wx es Fs) : JE X P Wx (.Tuple es x1 pos) (fTup Fs) := by
  obtain ⟨ts, ps, ks⟩ := hs
  refine ⟨_, pe_tup ps, fun z W H O Ms σ Q rl p => ?_⟩
  refine ks z W H O Ms σ _ rl (p.bind0.mono fun ds z1 W1 H1 O1 M1 rl1 st1 p1 vs fp hd ho => ?_)
  split at p1
  · rename_i hz
    refine ⟨by rw [hd.len, big_eq]; exact hz, fun q hq => ?_⟩
    have hs1 : ∀ a ∈ fp, H1 a ≠ none := fun a ha => hd.stands ha
    have rl2 := rl1.fix hs1 ho
    have hl : DenL P (W1.add H1 fp) H1 [] vs (frzL ds) := DenL.frz (Wd.add_le ho.oF) (fun a ha o e => by rw [Wd.add_at ha]; exact e) hd
    rw [frzL_map] at hl
    obtain ⟨W', r, s, dn⟩ := rl2.tup hq hl
    have sA : Stp Ms W (W1.add H1 fp) H H1 O O1 Ms M1 := st1.fix ho
    exact p1 _ _ _ _ r (sA.transE s) (.ref q) [] dn .nil
  · exact p1.elim
end
end G

namespace G
open PySem L2
section
variable {X : Cx} {P : Par} {Wx : WX} {a b c e o : Expr} {es rest : List Expr} {Fa Fb Fc F : M D} {Fs : M (List D)} {pos : Pos}
/-! ### x[i] -/
def dIx : D → D → Option D
  | .tup xs, .int i => atI xs i
  | .lst _ xs, .int i => atI xs i
  | .str l, .int i => (atI l i).map fun c => .str [c]
  | _, _ => none
/-- .. as a value: what a list owns is not handed out -/
def dIxE (x i : D) : Option D := match dIx x i with
  | some d => if notOwn d then some d else none
  | none => none
theorem atI_len {α β : Type} {xs : List α} {ys : List β} (h : xs.length = ys.length) {i : Int} {y : β} (e : atI ys i = some y) : ∃ j : Nat, ys[j]? = some y ∧ atI xs i = xs[j]? := by
  unfold atI at *
  rw [h]
  cases q : ixN ys.length i with
  | none => rw [q] at e; cases e
  | some j => rw [q] at e; exact ⟨j, e, rfl⟩
theorem okS_one {l : List Nat} {c : Nat} (h : okS l = true) (hc : c ∈ l) : okS [c] = true := by
  unfold okS at *
  simp only [Bool.and_eq_true, decide_eq_true_eq, List.all_eq_true] at *
  refine ⟨by show 1 ≤ 16777216; omega, fun x hx => ?_⟩
  rw [List.mem_singleton] at hx
  subst hx
  exact h.2 _ hc
theorem okS_len {l : List Nat} (h : okS l = true) : l.length ≤ sizeLine := by
  unfold okS at h
  simp only [Bool.and_eq_true, decide_eq_true_eq] at h
  rw [big_eq]; exact h.1
theorem ix_core {K : PySem.W.Frag} {W : Wd} {H : Hp} {O Ms : List Addr} {σ : St} {z : Z} {x y : V} {da db d : D} {fa fb : List Addr} {Q : VK} (rl : Rel P W H O Ms σ z) (ha : Den P W H fa x da) (hb : Den P W H fb y db) (e : dIx da db = some d)
    (k : ∀ v fp, Den P W H fp v d → (∀ a ∈ fp, a ∈ fa) → Q v H) : rIx K x y H Q := by
  unfold dIx at e
  split at e
  · rename_i xs i
    obtain ⟨_, a, vs, ev, hh, hl⟩ := den_tup_inv ha
    obtain ⟨j, e1, e2⟩ := atI_len hl.len e
    obtain ⟨v, fp', e3, h3, h4⟩ := (hl.any (H' := H)).get e1
    exact .inr (.inl ⟨a, vs, i, v, ev, (den_int_inv hb).1, SqT.of (rl.sub _ _ hh), e2.trans e3, k v fp' h3 (fun a h => by have := h4 a h; simp at this)⟩)
  · rename_i oo xs i
    cases oo with
    | false =>
      obtain ⟨_, a, vs, ev, hh, hl⟩ := den_lf_inv ha
      obtain ⟨j, e1, e2⟩ := atI_len hl.len e
      obtain ⟨v, fp', e3, h3, h4⟩ := (hl.any (H' := H)).get e1
      exact .inl ⟨a, vs, i, v, ev, (den_int_inv hb).1, SqL.of (rl.sub _ _ hh), e2.trans e3, k v fp' h3 (fun a h => by have := h4 a h; simp at this)⟩
    | true =>
      obtain ⟨a, vs, fp0, ev, hh, ef, hl⟩ := den_lt_inv ha
      obtain ⟨j, e1, e2⟩ := atI_len hl.len e
      obtain ⟨v, fp', e3, h3, h4⟩ := hl.get e1
      exact .inl ⟨a, vs, i, v, ev, (den_int_inv hb).1, SqL.of hh, e2.trans e3, k v fp' h3 (fun a h => by rw [ef]; exact List.mem_cons_of_mem _ (h4 a h))⟩
  · rename_i l i
    obtain ⟨ev, _, ok⟩ := den_str_inv ha
    cases q : atI l i with
    | none => rw [q] at e; cases e
    | some c =>
      rw [q] at e
      cases e
      have hc : c ∈ l := by
        unfold atI at q
        cases q2 : ixN l.length i with
        | none => rw [q2] at q; cases q
        | some j => rw [q2] at q; exact List.mem_of_getElem? q
      exact .inr (.inr ⟨sOf l, i, c, ev, (den_int_inv hb).1, by rw [sOf_len]; exact okS_len ok, by simpa using q, k (.str (sOf [c])) [] (den_str (okS_one ok hc)) (fun _ h => by simp at h)⟩)
  · cases e
def fIx (Fa Fb : M D) : M D := fBin dIxE Fa Fb
def fIxB (Fa Fb : M D) : M D := fBin dIx Fa Fb
theorem j_ix (ha : JB X P Wx a Fa) (hb : JB X P Wx b Fb) (hs : PlainIx b) : JE X P Wx (.Subscript a b pos) (fIx Fa Fb) := by
  obtain ⟨ta, pa, ka⟩ := ha
  obtain ⟨tb, pb, kb⟩ := hb
  refine ⟨_, pe_ix ix_seq pa pb hs, run2 (g := dIxE) ⟨?_⟩ ka kb⟩
  intro W H O Ms σ z x y da db d fa fb Q rl hx hy ma mb e k
  unfold dIxE at e
  split at e
  · rename_i d' e'
    split at e
    · rename_i no
      cases e
      refine ix_core rl hx hy e' fun v fp hd hf => ?_
      have e0 := hd.notOwn no
      subst e0
      exact k v W H [] rl .refl hd .nil
    · cases e
  · cases e
theorem j_ixB (ha : JB X P Wx a Fa) (hb : JB X P Wx b Fb) (hs : PlainIx b) : JB X P Wx (.Subscript a b pos) (fIxB Fa Fb) := by
  obtain ⟨ta, pa, ka⟩ := ha
  obtain ⟨tb, pb, kb⟩ := hb
  refine ⟨_, pe_ix ix_seq pa pb hs, fun z W H O Ms σ Q rl p => ?_⟩
  refine ka z W H O Ms σ _ rl (p.bind.mono fun da z1 W1 H1 O1 M1 rl1 st1 ⟨_, _, p1⟩ x fa hx hfa => ?_)
  refine kb z1 W1 H1 O1 M1 σ _ rl1 (p1.bind.mono fun db z2 W2 H2 O2 M2 rl2 st2 ⟨_, _, p2⟩ y fb hy hfb => ?_)
  obtain ⟨d, ed, k⟩ := p2.lift'
  obtain ⟨hx2, hfa2⟩ := hx.keepE st2 hfa
  exact ix_core rl2 hx2 hy ed fun v fp hd hf => k _ _ _ _ rl2 .refl v fp hd fun a ha => hfa2 a (hf a ha)

/-! ### slices -/
def cut {α : Type} (xs : List α) (lo hi : Option Int) : List α := (xs.drop (HT.sIx xs.length 0 lo)).take (HT.sIx xs.length xs.length hi - HT.sIx xs.length 0 lo)
def dCut (d : D) (lo hi : Option Int) : Option D := match d with
  | .tup xs => some (.tup (cut xs lo hi))
  | .str l => some (.str (cut l lo hi))
  | .lst false xs => some (.lst true (cut xs lo hi))
  | .lst true xs => if xs.all notOwn then some (.lst true (cut xs lo hi)) else none
  | _ => none
def asI : D → Option (Option Int)
  | .int i => some (some i)
  | _ => none
def fPart (F : M D) : M (Option Int) := bnd F fun d => lift (asI d)
def fNoPart : M (Option Int) := ret none
def fCut (Fa : M D) (Fl Fu : M (Option Int)) : M D := bnd Fa fun x => bnd Fl fun l => bnd Fu fun u => lift (dCut x l u)
def JO (X : Cx) (P : Par) (Wx : WX) (e : Option Expr) (F : M (Option Int)) : Prop :=
  ∃ te, PO X e te ∧ ∀ z W H O Ms σ Q, Rel P W H O Ms σ z → Post P Wx σ W H O Ms (fun o _ _ H' _ _ => Q o H') (F z) → te σ H Q
theorem jo_none : JO X P Wx none fNoPart := ⟨_, po_none, fun z W H O Ms σ Q rl p => p _ _ _ _ rl .refl⟩
theorem jo_some (ha : JB X P Wx a Fa) : JO X P Wx (some a) (fPart Fa) := by
  obtain ⟨ta, pa, ka⟩ := ha
  refine ⟨_, po_some pa, fun z W H O Ms σ Q rl p => ?_⟩
  refine ka z W H O Ms σ _ rl (p.bind.mono fun d z1 W1 H1 O1 M1 rl1 st1 ⟨_, _, p1⟩ x fa hx hfa => ?_)
  obtain ⟨i, e, k⟩ := Post.lift rl1 p1
  match d, e with
  | .int j, e => cases e; exact ⟨j, (den_int_inv hx).1, k⟩
def rCutA (K : PySem.W.Frag) : V → Option Int → Option Int → Hp → VK → Prop := fun x lo hi H Q => rSlA K x lo hi H Q ∨ (rSlL K x lo hi H Q ∨ rSlS x lo hi H Q)
theorem sl_all : SlR X (rCutA X.K) := sl_tupA.or (sl_list.or sl_str)
theorem denL_cut {W : Wd} {H : Hp} {vs : List V} {ds : List D} (h : DenL P W H [] vs ds) (lo hi : Option Int) : DenL P W H [] (cutV vs lo hi) (cut ds lo hi) := by
  unfold cutV cut
  rw [h.len]
  exact (h.drop _).take _
theorem cut_whole {α : Type} (xs : List α) (lo hi : Option Int) (h : HT.sIx xs.length 0 lo = 0 ∧ HT.sIx xs.length xs.length hi = xs.length) : cut xs lo hi = xs := by
  unfold cut
  rw [h.1, h.2]
  simp
theorem okS_cut {l : List Nat} (h : okS l = true) (lo hi : Option Int) : okS (cut l lo hi) = true := by
  unfold okS at *
  simp only [Bool.and_eq_true, decide_eq_true_eq, List.all_eq_true] at *
  unfold cut
  refine ⟨?_, fun c hc => h.2 c (List.mem_of_mem_drop (List.mem_of_mem_take hc))⟩
  rw [List.length_take, List.length_drop]
  omega
theorem cutS_eq (l : List Nat) (lo hi : Option Int) : cutS (sOf l) lo hi = sOf (cut l lo hi) := by
  unfold cutS cut
  rw [sOf_len]
theorem cut_core {K : PySem.W.Frag} {W : Wd} {H : Hp} {O Ms : List Addr} {σ : St} {z : Z} {x : V} {da d : D} {fa : List Addr} {lo hi : Option Int} {Q : VK} (rl : Rel P W H O Ms σ z) (ha : Den P W H fa x da) (e : dCut da lo hi = some d)
    (k : ∀ v W' H' fp, Rel P W' H' O Ms σ z → Stp Ms W W' H H' O O Ms Ms → Den P W' H' fp v d → Own H W' O Ms fp → Q v H') : rCutA K x lo hi H Q := by
  unfold dCut at e
  split at e
  · rename_i xs
    cases e
    obtain ⟨_, a, vs, ev, hh, hl⟩ := den_tup_inv ha
    refine .inl ⟨a, vs, ev, SqT.of (rl.sub _ _ hh), fun w => ?_, fun w p hp => ?_⟩
    · rw [hl.len] at w
      rw [cut_whole xs lo hi w] at k
      exact k _ W H [] rl .refl (den_tup hh hl) .nil
    · obtain ⟨W', r, s, dn⟩ := rl.tup hp (denL_cut hl lo hi).any
      exact k _ _ _ _ r s dn .nil
  · rename_i l
    cases e
    obtain ⟨ev, _, ok⟩ := den_str_inv ha
    refine .inr (.inr ⟨sOf l, ev, by rw [sOf_len]; exact okS_len ok, ?_⟩)
    rw [cutS_eq]
    exact k _ W H [] rl .refl (den_str (okS_cut ok lo hi)) .nil
  · rename_i xs
    cases e
    obtain ⟨_, a, vs, ev, hh, hl⟩ := den_lf_inv ha
    refine .inr (.inl ⟨a, vs, ev, SqL.of (rl.sub _ _ hh), fun p hp => ?_⟩)
    obtain ⟨r, s, dn, ow⟩ := rl.lst0 hp (denL_cut hl lo hi).any
    exact k _ _ _ _ r s dn ow
  · rename_i xs
    split at e
    · rename_i no
      cases e
      obtain ⟨a, vs, fp', ev, hh, _, hl⟩ := den_lt_inv ha
      have e0 := hl.notOwn no
      subst e0
      refine .inr (.inl ⟨a, vs, ev, SqL.of hh, fun p hp => ?_⟩)
      obtain ⟨r, s, dn, ow⟩ := rl.lst0 hp (denL_cut hl lo hi)
      exact k _ _ _ _ r s dn ow
    · cases e
  · cases e
variable {lo hi : Option Expr} {Fl Fu : M (Option Int)}
theorem j_cut {p2} (ha : JB X P Wx a Fa) (hl : JO X P Wx lo Fl) (hu : JO X P Wx hi Fu) : JE X P Wx (.Subscript a (.Slice lo hi none p2) pos) (fCut Fa Fl Fu) := by
  obtain ⟨ta, pa, ka⟩ := ha
  obtain ⟨tl, pl, kl⟩ := hl
  obtain ⟨tu, pu, ku⟩ := hu
  refine ⟨_, pe_slice sl_all pa pl pu, fun z W H O Ms σ Q rl p => ?_⟩
  refine ka z W H O Ms σ _ rl (p.bind.mono fun da z1 W1 H1 O1 M1 rl1 st1 ⟨_, _, p1⟩ x fa hx hfa => ?_)
  refine kl z1 W1 H1 O1 M1 σ _ rl1 (p1.bind.mono fun l z2 W2 H2 O2 M2 rl2 st2 ⟨_, _, p2⟩ => ?_)
  refine ku z2 W2 H2 O2 M2 σ _ rl2 (p2.bind.mono fun u z3 W3 H3 O3 M3 rl3 st3 ⟨_, _, p3⟩ => ?_)
  obtain ⟨d, ed, k⟩ := p3.lift'
  have sT := st2.transE st3
  obtain ⟨hx2, hfa2⟩ := hx.keepE sT hfa
  exact cut_core rl3 hx2 ed fun v W' H' fp r s hd ho => k _ _ _ _ r s v fp hd (ho.old fun b hb => st1.dom b (sT.dom b hb))

/-! ### x[::-1] -/
def dRev : D → Option D
  | .tup xs => some (.tup xs.reverse)
  | .str l => some (.str l.reverse)
  | .lst false xs => some (.lst true xs.reverse)
  | .lst true xs => if xs.all notOwn then some (.lst true xs.reverse) else none
  | _ => none
end
end G

namespace G
open PySem PySem.Spec PyProof.Rows HT
section
variable {prog : Program} {w : World} {A : Around} {E : Value → Shared → Prop} {s : Shared}
theorem adjust_rev (n : Nat) : Builtin.Slice.sliceAdjust none none (-1) (n : Int) = ((n : Int) - 1, -1) := by
  unfold Builtin.Slice.sliceAdjust
  simp
theorem places_rev (n : Nat) : Builtin.Slice.slicePlaces ((n : Int) - 1) (-1) (-1) = n := by
  unfold Builtin.Slice.slicePlaces
  simp
  omega
theorem pick_rev (xs : Array Value) : ((List.range xs.size).filterMap fun (m : Nat) => xs[(((xs.size : Int) - 1) + (m : Int) * (-1)).toNat]?).toArray = xs.toList.reverse.toArray := by
  congr 1
  apply List.ext_getElem?
  intro i
  by_cases hi : i < xs.size
  · have key : ∀ (k : Nat) (f : Nat → Option Value) , (∀ j, j < k → (f j).isSome = true) → ∀ i, i < k → ((List.range k).filterMap f)[i]? = f i := by
      intro k f hf i hik
      have gen : ∀ l : List Nat, (∀ j ∈ l, (f j).isSome = true) → l.filterMap f = l.map fun j => (f j).getD .none := by
        intro l
        induction l with
        | nil => intro _; rfl
        | cons x l ih =>
          intro hl
          have hx := hl x (by simp)
          cases q : f x with
          | none => rw [q] at hx; cases hx
          | some v => rw [List.filterMap_cons_some q, List.map_cons, q, ih fun j hj => hl j (by simp [hj])]; rfl
      have : (List.range k).filterMap f = (List.range k).map fun j => (f j).getD .none := gen _ fun j hj => hf j (List.mem_range.mp hj)
      rw [this, List.getElem?_map, List.getElem?_range hik]
      have := hf i hik
      cases q : f i with
      | none => rw [q] at this; cases this
      | some v => simp [q]
    have ok : ∀ j, j < xs.size → (xs[(((xs.size : Int) - 1) + (j : Int) * (-1)).toNat]?).isSome = true := by
      intro j hj
      have e : (((xs.size : Int) - 1) + (j : Int) * (-1)).toNat = xs.size - 1 - j := by omega
      rw [e, Array.getElem?_eq_getElem (show xs.size - 1 - j < xs.size by omega)]; rfl
    rw [key xs.size _ ok i hi]
    have e : (((xs.size : Int) - 1) + (i : Int) * (-1)).toNat = xs.size - 1 - i := by omega
    rw [e, List.getElem?_reverse (by simpa using hi)]
    simp
  · have h1 : ((List.range xs.size).filterMap fun (m : Nat) => xs[(((xs.size : Int) - 1) + (m : Int) * (-1)).toNat]?).length ≤ xs.size := by
      refine Nat.le_trans (List.length_filterMap_le _ _) ?_
      simp
    rw [List.getElem?_eq_none (by omega), List.getElem?_eq_none (by simp; omega)]
theorem sliceApplied_rev {sl : Addr} {vl vu vs : Value} {n : Nat} {Q : Int × Int × Nat → Shared → Prop} (hs : s.heap.IsSliceOf sl vl vu vs) (pl : IsPart vl none) (pu : IsPart vu none) (ps : IsPart vs (some (-1)))
    (h : Q ((n : Int) - 1, -1, n) s) : wpAny (model prog w) A (Builtin.Slice.sliceApplied (.ref sl) (pure (n : Int))) Q E s := by
  obtain ⟨os, hos, hcs, hds⟩ := id hs
  unfold Builtin.Slice.sliceApplied Builtin.Slice.sliceFields
  refine wpAny_bind (wpAny_bind (wpAny_field hos hds (x := vl) rfl (wpAny_bind (wpAny_field hos hds (x := vu) rfl (wpAny_bind (wpAny_field hos hds (x := vs) rfl (wpAny_pure ?_)))))))
  refine wpAny_bind (slicePart_ ps ?_)
  show wpAny _ _ (if ((-1 : Int) == 0) = true then _ else _) _ _ s
  rw [if_neg (by decide)]
  refine wpAny_bind (slicePart_ pl (wpAny_bind (slicePart_ pu (wpAny_bind (wpAny_pure ?_)))))
  show wpAny _ _ (match Builtin.Slice.sliceAdjust none none (-1) (n : Int) with | (lo, hi) => pure (lo, (-1 : Int), Builtin.Slice.slicePlaces lo hi (-1))) _ _ s
  rw [adjust_rev n]
  show wpAny _ _ (pure ((n : Int) - 1, (-1 : Int), Builtin.Slice.slicePlaces ((n : Int) - 1) (-1) (-1))) _ _ s
  rw [places_rev]
  exact wpAny_pure h
theorem getItem_tuple_rev {t sl : Addr} {items : Array Value} {vl vu vs : Value} {Q : Value → Shared → Prop} (ht : IsTup s.heap t items) (hs : s.heap.IsSliceOf sl vl vu vs) (pl : IsPart vl none) (pu : IsPart vu none) (ps : IsPart vs (some (-1)))
    (h : Q (.ref s.heap.objs.size) { s with heap := s.heap.push { cls := .type "tuple", data := .seq items.toList.reverse.toArray } })
    (hsz : items.size ≤ sizeLine) : wpAny (model prog w) A (getItem (.ref t) (.ref sl)) Q E s := by
  have htake : sizeOk (.seq items.toList.reverse.toArray) := by
    show items.toList.reverse.toArray.size ≤ sizeLine
    simpa using hsz
  obtain ⟨os, hos, hcs, hds⟩ := id hs
  have hTs : s.TypeIs (.ref sl) "slice" := ⟨os, hos, hcs⟩
  unfold getItem
  try with_reducible refine wpAny_holding ?_
  first | refine wpAny_bind (wpAny_pure ?_) | skip
  refine wpAny_bind (wpAny_sequenceKey ht.typeIs (by decide) ?_)
  refine wpAny_bind (wpAny_callSpecial?_slot (name := Str.ofString "__getitem__") ht.typeIs PyProof.Rows.slot_tuple_getitem
    (wpAny_call_entry PyProof.Rows.slot_tuple_getitem ht.typeIs entry_tuple_getitem ?_ (args_tuple_getitem _ _)))
  show wpAny _ _ (Builtin.Tuple.tupleItemsOf (.ref t) >>= _) _ _ s
  refine wpAny_bind (tupleItemsOf_ ht ?_)
  refine wpAny_bind (wpAny_typeOf hTs ?_)
  rw [if_pos (by decide)]
  refine wpAny_bind (sliceApplied_rev hs pl pu ps ?_)
  have hno : ¬ ((((items.size : Int) - 1) == 0 && (-1 : Int) == 1 && items.size == items.size) = true) := by
    intro q
    rw [Bool.and_eq_true, Bool.and_eq_true] at q
    exact absurd q.1.2 (by decide)
  show wpAny _ _ (if (((items.size : Int) - 1) == 0 && (-1 : Int) == 1 && items.size == items.size) = true then _ else _) _ _ s
  rw [if_neg hno, pick_rev]
  first
    | exact wpAny_bind (m := Builtin.Tuple.tupleExact _) (wpAny_newObj_type (wpAny_pure ⟨_, rfl, wpAny_pure h⟩) htake)
    | exact wpAny_bind (wpAny_newObj_type (wpAny_pure ⟨_, rfl, wpAny_pure h⟩) htake)
    | exact wpAny_bind (wpAny_bind (wpAny_newObj_type (wpAny_pure ⟨_, rfl, wpAny_pure h⟩) htake))
end
end G

namespace G
open PySem L2
section
variable {X : Cx} {P : Par} {Wx : WX} {a b c e o : Expr} {es rest : List Expr} {Fa Fb Fc F : M D} {Fs : M (List D)} {pos : Pos}
def rRevA (K : PySem.W.Frag) : V → Hp → VK → Prop := fun x H Q => (∃ a xs, x = .ref a ∧ SqL K H a xs ∧ ∀ p, H p = none → Q (.ref p) (upd H p (.lst xs.reverse))) ∨
  (∃ a xs, x = .ref a ∧ SqT K H a xs ∧ ∀ p, H p = none → Q (.ref p) (upd H p (.tup xs.reverse))) ∨ (∃ l, x = .str (sOf l) ∧ l.length ≤ sizeLine ∧ Q (.str (sOf l.reverse)) H)
theorem pe_rev {te : TE} {k : Nat} {p1 p2 p3 : Pos} (he : PE X e te) : PE X (.Subscript e (.Slice none none (some (.UnaryOp .USub (.Constant (.int 1) k p1) p2)) p3) pos) (tUn (rRevA X.K) te) := by
  refine ⟨fun pins s σ H Q I h => ?_⟩
  refine PyProof.Rows.Subscript_ (thn (he.run pins s σ H _ I h) fun v s1 ⟨x, H1, I1, r1, q1⟩ => ?_)
  have hst : PO X (some (.UnaryOp .USub (.Constant (.int 1) k p1) p2)) (tPart (tUn (rU fun i => .int (-i)) (tC (.int 1)))) := po_some (pe_un un_neg pe_int)
  refine wpAny_Slice (thn (po_none.run pins s1 σ H1 (fun o H2 => o = none ∧ H2 = H1) I1 ⟨rfl, rfl⟩) fun vl s2 ⟨l, H2, I2, pl, el, e2⟩ => ?_)
  subst el e2
  refine thn (po_none.run pins s2 σ H2 (fun o H3 => o = none ∧ H3 = H2) I2 ⟨rfl, rfl⟩) fun vu s3 ⟨u, H3, I3, pu, eu, e3⟩ => ?_
  subst eu e3
  refine thn (hst.run pins s3 σ H3 (fun o H4 => o = some (-1) ∧ H4 = H3) I3 ⟨1, rfl, -1, rfl, rfl, rfl⟩) fun vs s4 ⟨o, H4, I4, ps, eo, e4⟩ => ?_
  subst eo e4
  have I5 : Inv X pins σ H4 { s4 with heap := s4.heap.push { cls := .type "slice", data := .fields #[vl, vu, vs] } } := I4.kept (t' := s4.toks) fun b ob q => Heap.get?_push_of_some _ q
  rcases q1 with ⟨a, xs, ex, hx, q⟩ | ⟨a, xs, ex, hx, q⟩ | ⟨l, ex, hz, q⟩
  · subst ex
    cases r1
    obtain ⟨its, r, ht, hz⟩ := I5.list hx
    have hlen := r.length
    show wpAny (model X.prog X.w) X.A (PyProof.Rows.subscriptTail e (.Slice none none (some (.UnaryOp .USub (.Constant (.int 1) k p1) p2)) p3) (.ref a) (.ref s4.heap.objs.size)) (EP X pins σ Q) X.xe { s4 with heap := s4.heap.push { cls := .type "slice", data := .fields #[vl, vu, vs] } }
    refine PyProof.Rows.tail_any (ops := [.ref a, .ref s4.heap.objs.size]) ht.isList.typeIs (PySem.slot_list_getitem.lookup) ?_ (by with_unfolding_all rfl)
    refine wpAny_getItem_list_slice ht.isList (Heap.IsSliceOf.new _ vl vu vs) pl pu ps (by decide) ?_ (by rw [List.size_toArray]; omega)
    rw [PySem.W.krv_pick]
    refine ⟨.ref _, _, I5.laid (t' := s4.toks) (o := .lst xs.reverse) (fun b ob q => Heap.get?_push_of_some _ q) (Nat.le_refl _) ?_, rfl, q _ (I5.hok.fresh (Nat.le_refl _))⟩
    exact ⟨by rw [List.length_reverse]; exact hz, _, 0, r.reverse, Heap.get?_push_size _ rfl⟩
  · subst ex
    cases r1
    obtain ⟨its, r, ht, hz⟩ := I5.tuple hx
    have hlen := r.length
    show wpAny (model X.prog X.w) X.A (PyProof.Rows.subscriptTail e (.Slice none none (some (.UnaryOp .USub (.Constant (.int 1) k p1) p2)) p3) (.ref a) (.ref s4.heap.objs.size)) (EP X pins σ Q) X.xe { s4 with heap := s4.heap.push { cls := .type "slice", data := .fields #[vl, vu, vs] } }
    refine PyProof.Rows.tail_any (ops := [.ref a, .ref s4.heap.objs.size]) ht.typeIs (PyProof.Rows.slot_tuple_getitem.lookup) ?_ (by with_unfolding_all rfl)
    refine getItem_tuple_rev ht (Heap.IsSliceOf.new _ vl vu vs) pl pu ps ?_ (by rw [List.size_toArray]; omega)
    refine ⟨.ref _, _, I5.laid (t' := s4.toks) (o := .tup xs.reverse) (fun b ob q => Heap.get?_push_of_some _ q) (Nat.le_refl _) ?_, rfl, q _ (I5.hok.fresh (Nat.le_refl _))⟩
    refine ⟨by rw [List.length_reverse]; exact hz, _, r.reverse, ?_⟩
    exact PyProof.Rows.IsTup.new _ _
  · subst ex
    obtain ⟨t, rfl⟩ := r1
    show wpAny (model X.prog X.w) X.A (PyProof.Rows.subscriptTail e (.Slice none none (some (.UnaryOp .USub (.Constant (.int 1) k p1) p2)) p3) (.str (sOf l) t) (.ref s4.heap.objs.size)) (EP X pins σ Q) X.xe { s4 with heap := s4.heap.push { cls := .type "slice", data := .fields #[vl, vu, vs] } }
    refine PyProof.Rows.tail_any (ops := [.str (sOf l) t, .ref s4.heap.objs.size]) (typeIs_str _ _ _) (F.slot_str_getitem.lookup) ?_ (by with_unfolding_all rfl)
    cases pl
    cases pu
    cases ps with
    | int _ ts =>
    refine wpAny_getItem_str_slice (l := none) (u := none) (st := some (-1, ts)) ⟨_, Heap.get?_push_size _ rfl, rfl, rfl⟩ (by rfl) ?_
    have e1 : slicePicked (sOf l) none none (some (-1, ts)) = (List.range l.length).reverse := by
      show Builtin.Str.strSliceIndices none none (-1) (sOf l).length = _
      have e2 : Builtin.Str.strSliceIndices none none (-1) (sOf l).length = sliceRange (((sOf l).length : Int) - 1) (-1) (-1) := by
        simp [Builtin.Str.strSliceIndices]
      rw [e2, sOf_len, PySem.W.krv_sliceRange, PySem.W.krv_range]
    have e3 : (⟨((List.range l.length).reverse.filterMap ((sOf l).cps[·]?)).toArray⟩ : Str) = sOf l.reverse := by
      rw [List.filterMap_reverse]
      have := PySem.W.krv_all (sOf l).cps
      simp only [sOf] at this ⊢
      rw [show l.toArray.size = l.length by simp] at this
      rw [this]
    unfold sliceMade
    rw [if_neg (by simp), e1, e3]
    exact ⟨by rw [sOf_len, List.length_reverse]; exact hz, .str _, _, I5.tok _, ⟨_, rfl⟩, q⟩
theorem und_rev {K : PySem.W.Frag} : UnD P dRev (rRevA K) := by
  constructor
  intro W H O Ms σ z x da d fa Q rl ha ma e k
  unfold dRev at e
  split at e
  · rename_i xs
    cases e
    obtain ⟨_, a, vs, ev, hh, hl⟩ := den_tup_inv ha
    refine .inr (.inl ⟨a, vs, ev, SqT.of (rl.sub _ _ hh), fun p hp => ?_⟩)
    obtain ⟨W', r, s, dn⟩ := rl.tup hp hl.rev.any
    exact k _ _ _ _ r s dn .nil
  · rename_i l
    cases e
    obtain ⟨ev, _, ok⟩ := den_str_inv ha
    refine .inr (.inr ⟨l, ev, okS_len ok, ?_⟩)
    refine k _ W H [] rl .refl (den_str ?_) .nil
    unfold okS at *
    simpa using ok
  · rename_i xs
    cases e
    obtain ⟨_, a, vs, ev, hh, hl⟩ := den_lf_inv ha
    refine .inl ⟨a, vs, ev, SqL.of (rl.sub _ _ hh), fun p hp => ?_⟩
    obtain ⟨r, s, dn, ow⟩ := rl.lst0 hp hl.rev.any
    exact k _ _ _ _ r s dn ow
  · rename_i xs
    split at e
    · rename_i no
      cases e
      obtain ⟨a, vs, fp', ev, hh, _, hl⟩ := den_lt_inv ha
      have e0 := hl.notOwn no
      subst e0
      refine .inl ⟨a, vs, ev, SqL.of hh, fun p hp => ?_⟩
      obtain ⟨r, s, dn, ow⟩ := rl.lst0 hp hl.rev
      exact k _ _ _ _ r s dn ow
    · cases e
  · cases e
theorem j_rev {k : Nat} {p1 p2 p3 : Pos} (ha : JB X P Wx a Fa) : JE X P Wx (.Subscript a (.Slice none none (some (.UnaryOp .USub (.Constant (.int 1) k p1) p2)) p3) pos) (fUn dRev Fa) := by
  obtain ⟨ta, pa, ka⟩ := ha
  exact ⟨_, pe_rev pa, run1 und_rev ka⟩

/-! ### built-in calls -/
structure CallD (P : Par) (g : List D → Option D) (r : List V → Hp → VK → Prop) : Prop where
  run : ∀ {W : Wd} {H : Hp} {O Ms : List Addr} {σ : St} {z : Z} {vs : List V} {ds : List D} {d : D} {Q : VK}, Rel P W H O Ms σ z → BorL P W H Ms vs ds → g ds = some d →
    (∀ v W' H' fp, Rel P W' H' O Ms σ z → Stp Ms W W' H H' O O Ms Ms → Den P W' H' fp v d → Own H W' O Ms fp → Q v H') → r vs H Q
def fCB (g : List D → Option D) (Fs : M (List D)) : M D := bnd Fs fun ds => lift (g ds)
theorem runC {ts : TA} {g : List D → Option D} {r : List V → Hp → VK → Prop} (o : CallD P g r) (ks : ∀ z W H O Ms σ Q, Rel P W H O Ms σ z → Post P Wx σ W H O Ms (KBs P Q) (Fs z) → ts σ H Q) :
    ∀ z W H O Ms σ Q, Rel P W H O Ms σ z → Post P Wx σ W H O Ms (KE P H Q) (fCB g Fs z) → tCB r ts σ H Q := by
  intro z W H O Ms σ Q rl p
  refine ks z W H O Ms σ _ rl (p.bind.mono fun ds z1 W1 H1 O1 M1 rl1 st1 ⟨_, _, p1⟩ vs hvs => ?_)
  obtain ⟨d, ed, k⟩ := p1.lift'
  exact o.run rl1 hvs ed fun v W' H' fp r s hd ho => k _ _ _ _ r s v fp hd (ho.old st1.dom)
theorem j_callB {id : String} {x : Str} {p : Pos} {g : List D → Option D} {r : List V → Hp → VK → Prop} (hc : CallR X (.builtin id) r) (o : CallD P g r) (hg : Gl X x) (hm : X.mg x = none) (hv : bootBuiltins x = some (.builtin id)) (ha : JBs X P Wx (e :: es) Fs)
    (hn : x ≠ "__name__" := by decide) (hdb : (x == ("__debug__" : Str)) = false := by decide)
    (he : starEach (e :: es) X.env = (false, eval e X.env) :: starEach es X.env := by rfl) (hpl : (backTo pos (starEach es X.env)).any (·.1) = false := by rfl) : JE X P Wx (.Call (.Name x p) (e :: es) [] pos) (fCB g Fs) := by
  obtain ⟨ts, ps, ks⟩ := ha
  exact ⟨_, pe_callB hc hg hm hv ps hn hdb he hpl, runC o ks⟩
theorem j_callTy {T : String} {x : Str} {p : Pos} {g : List D → Option D} {r : List V → Hp → VK → Prop} (hc : CallR X (.type T) r) (o : CallD P g r) (hg : Gl X x) (hm : X.mg x = none) (hv : bootBuiltins x = some (.type T)) (ha : JBs X P Wx (e :: es) Fs)
    (hn : x ≠ "__name__" := by decide) (hdb : (x == ("__debug__" : Str)) = false := by decide)
    (he : starEach (e :: es) X.env = (false, eval e X.env) :: starEach es X.env := by rfl) (hpl : (backTo pos (starEach es X.env)).any (·.1) = false := by rfl) : JE X P Wx (.Call (.Name x p) (e :: es) [] pos) (fCB g Fs) := by
  obtain ⟨ts, ps, ks⟩ := ha
  exact ⟨_, pe_callTy hc hg hm hv ps hn hdb he hpl, runC o ks⟩

theorem bor1 {W : Wd} {H : Hp} {Ms : List Addr} {vs : List V} {d : D} (h : BorL P W H Ms vs [d]) : ∃ v fp, vs = [v] ∧ Den P W H fp v d ∧ ∀ a ∈ fp, a ∉ Ms := by
  cases h with
  | cons h1 h2 => cases h2; obtain ⟨fp, h3, h4⟩ := h1; exact ⟨_, fp, rfl, h3, h4⟩
theorem bor2 {W : Wd} {H : Hp} {Ms : List Addr} {vs : List V} {d u : D} (h : BorL P W H Ms vs [d, u]) : ∃ v w fp fq, vs = [v, w] ∧ Den P W H fp v d ∧ Den P W H fq w u := by
  cases h with
  | cons h1 h2 =>
    cases h2 with
    | cons h3 h4 => cases h4; obtain ⟨fp, h5, _⟩ := h1; obtain ⟨fq, h6, _⟩ := h3; exact ⟨_, _, fp, fq, rfl, h5, h6⟩
def gLen : List D → Option D
  | [.str l] => some (.int l.length)
  | [.tup xs] => some (.int xs.length)
  | [.lst _ xs] => some (.int xs.length)
  | _ => none
theorem cd_len {K : PySem.W.Frag} : CallD P gLen (fun xs H Q => ∃ x n, xs = [x] ∧ LenV K x H n ∧ Q (.int n) H) := by
  constructor
  intro W H O Ms σ z vs ds d Q rl hb e k
  unfold gLen at e
  split at e
  · rename_i l
    cases e
    obtain ⟨v, fp, rfl, hd, _⟩ := bor1 hb
    obtain ⟨ev, _, ok⟩ := den_str_inv hd
    subst ev
    exact ⟨_, l.length, rfl, ⟨by rw [sOf_len]; exact okS_len ok, (sOf_len l).symm⟩, k _ W H [] rl .refl den_int .nil⟩
  · rename_i l
    cases e
    obtain ⟨v, fp, rfl, hd, _⟩ := bor1 hb
    obtain ⟨_, a, vs, ev, hh, hl⟩ := den_tup_inv hd
    subst ev
    exact ⟨_, l.length, rfl, .inr ⟨vs, SqT.of (rl.sub _ _ hh), hl.len.symm⟩, k _ W H [] rl .refl den_int .nil⟩
  · rename_i oo l
    cases e
    obtain ⟨v, fp, rfl, hd, _⟩ := bor1 hb
    cases oo with
    | false =>
      obtain ⟨_, a, vs, ev, hh, hl⟩ := den_lf_inv hd
      subst ev
      exact ⟨_, l.length, rfl, .inl ⟨vs, SqL.of (rl.sub _ _ hh), hl.len.symm⟩, k _ W H [] rl .refl den_int .nil⟩
    | true =>
      obtain ⟨a, vs, fp', ev, hh, _, hl⟩ := den_lt_inv hd
      subst ev
      exact ⟨_, l.length, rfl, .inl ⟨vs, SqL.of hh, hl.len.symm⟩, k _ W H [] rl .refl den_int .nil⟩
  · cases e
def gAbs : List D → Option D
  | [.int i] => some (.int (if i < 0 then -i else i))
  | _ => none
theorem cd_abs : CallD P gAbs (fun xs H Q => ∃ i, xs = [.int i] ∧ Q (.int (if i < 0 then -i else i)) H) := by
  constructor
  intro W H O Ms σ z vs ds d Q rl hb e k
  unfold gAbs at e
  split at e
  · rename_i i
    cases e
    obtain ⟨v, fp, rfl, hd, _⟩ := bor1 hb
    rw [(den_int_inv hd).1]
    exact ⟨i, rfl, k _ W H [] rl .refl den_int .nil⟩
  · cases e
def gInt : List D → Option D
  | [.int i] => some (.int i)
  | _ => none
theorem cd_int : CallD P gInt (fun xs H Q => (∃ i, xs = [.int i] ∧ Q (.int i) H) ∨ ∃ k, xs = [.bl k] ∧ Q (.int (if k then 1 else 0)) H) := by
  constructor
  intro W H O Ms σ z vs ds d Q rl hb e k
  unfold gInt at e
  split at e
  · rename_i i
    cases e
    obtain ⟨v, fp, rfl, hd, _⟩ := bor1 hb
    rw [(den_int_inv hd).1]
    exact .inl ⟨i, rfl, k _ W H [] rl .refl den_int .nil⟩
  · cases e
def gMax2 : List D → Option D
  | [.int i, .int j] => some (.int (if j > i then j else i))
  | _ => none
def gMin2 : List D → Option D
  | [.int i, .int j] => some (.int (if j < i then j else i))
  | _ => none
theorem cd_max2 : CallD P gMax2 (fun xs H Q => ∃ i j, xs = [.int i, .int j] ∧ Q (.int (if j > i then j else i)) H) := by
  constructor
  intro W H O Ms σ z vs ds d Q rl hb e k
  unfold gMax2 at e
  split at e
  · rename_i i j
    cases e
    obtain ⟨v, w, _, _, rfl, h1, h2⟩ := bor2 hb
    rw [(den_int_inv h1).1, (den_int_inv h2).1]
    exact ⟨i, j, rfl, k _ W H [] rl .refl den_int .nil⟩
  · cases e
theorem cd_min2 : CallD P gMin2 (fun xs H Q => ∃ i j, xs = [.int i, .int j] ∧ Q (.int (if j < i then j else i)) H) := by
  constructor
  intro W H O Ms σ z vs ds d Q rl hb e k
  unfold gMin2 at e
  split at e
  · rename_i i j
    cases e
    obtain ⟨v, w, _, _, rfl, h1, h2⟩ := bor2 hb
    rw [(den_int_inv h1).1, (den_int_inv h2).1]
    exact ⟨i, j, rfl, k _ W H [] rl .refl den_int .nil⟩
  · cases e
/-- all items of a kind -/
def boolsD : List D → Option (List Bool)
  | [] => some []
  | .bl b :: ds => (boolsD ds).map (b :: ·)
  | _ => none
def intsD : List D → Option (List Int)
  | [] => some []
  | .int b :: ds => (intsD ds).map (b :: ·)
  | _ => none
def strsD : List D → Option (List (List Nat))
  | [] => some []
  | .str b :: ds => (strsD ds).map (b :: ·)
  | _ => none
theorem boolsD_inv : ∀ {ds : List D} {bs : List Bool}, boolsD ds = some bs → ds = bs.map .bl
  | [], bs, e => by cases e; rfl
  | d :: ds, bs, e => by
    match d, e with
    | .bl b, e =>
      cases q : boolsD ds with
      | none => simp [boolsD, q] at e
      | some l => simp [boolsD, q] at e; subst e; rw [boolsD_inv q]; rfl
theorem intsD_inv : ∀ {ds : List D} {bs : List Int}, intsD ds = some bs → ds = bs.map .int
  | [], bs, e => by cases e; rfl
  | d :: ds, bs, e => by
    match d, e with
    | .int b, e =>
      cases q : intsD ds with
      | none => simp [intsD, q] at e
      | some l => simp [intsD, q] at e; subst e; rw [intsD_inv q]; rfl
theorem strsD_inv : ∀ {ds : List D} {bs : List (List Nat)}, strsD ds = some bs → ds = bs.map .str
  | [], bs, e => by cases e; rfl
  | d :: ds, bs, e => by
    match d, e with
    | .str b, e =>
      cases q : strsD ds with
      | none => simp [strsD, q] at e
      | some l => simp [strsD, q] at e; subst e; rw [strsD_inv q]; rfl
@[simp] theorem bools_map {α : Type} (f : α → Bool) (l : List α) : boolsD (l.map fun a => .bl (f a)) = some (l.map f) := by
  induction l with
  | nil => rfl
  | cons a l ih => simp [boolsD, ih]
@[simp] theorem ints_map {α : Type} (f : α → Int) (l : List α) : intsD (l.map fun a => .int (f a)) = some (l.map f) := by
  induction l with
  | nil => rfl
  | cons a l ih => simp [intsD, ih]
@[simp] theorem strs_map {α : Type} (f : α → List Nat) (l : List α) : strsD (l.map fun a => .str (f a)) = some (l.map f) := by
  induction l with
  | nil => rfl
  | cons a l ih => simp [strsD, ih]
theorem denL_bools {W : Wd} {H : Hp} : ∀ {bs : List Bool} {fp : List Addr} {vs : List V}, DenL P W H fp vs (bs.map .bl) → vs = bs.map V.bl
  | [], _, _, h => by rw [List.map_nil, denL_nil] at h; rw [h.1]; rfl
  | b :: bs, _, _, h => by
    rw [List.map_cons, denL_cons] at h
    obtain ⟨v, vs', fp1, fp2, e1, e2, h1, h2⟩ := h
    rw [e1, (den_blI h1).1, denL_bools h2]; rfl
theorem denL_ints {W : Wd} {H : Hp} : ∀ {bs : List Int} {fp : List Addr} {vs : List V}, DenL P W H fp vs (bs.map .int) → vs = bs.map V.int
  | [], _, _, h => by rw [List.map_nil, denL_nil] at h; rw [h.1]; rfl
  | b :: bs, _, _, h => by
    rw [List.map_cons, denL_cons] at h
    obtain ⟨v, vs', fp1, fp2, e1, e2, h1, h2⟩ := h
    rw [e1, (den_int_inv h1).1, denL_ints h2]; rfl
theorem denL_strs {W : Wd} {H : Hp} : ∀ {bs : List (List Nat)} {fp : List Addr} {vs : List V}, DenL P W H fp vs (bs.map .str) → vs = (bs.map sOf).map V.str ∧ ∀ l ∈ bs, okS l = true
  | [], _, _, h => by rw [List.map_nil, denL_nil] at h; rw [h.1]; exact ⟨rfl, by simp⟩
  | b :: bs, _, _, h => by
    rw [List.map_cons, denL_cons] at h
    obtain ⟨v, vs', fp1, fp2, e1, e2, h1, h2⟩ := h
    obtain ⟨q1, q2⟩ := denL_strs h2
    obtain ⟨p1, _, p3⟩ := den_str_inv h1
    refine ⟨by rw [e1, p1, q1]; rfl, fun l hl => ?_⟩
    rcases List.mem_cons.mp hl with rfl | hl
    · exact p3
    · exact q2 l hl
/-- a list that is looked at -/
theorem Rel.lstAt {W : Wd} {H : Hp} {O Ms : List Addr} {σ : St} {z : Z} (rl : Rel P W H O Ms σ z) {oo : Bool} {xs : List D} {fp : List Addr} {v : V} (h : Den P W H fp v (.lst oo xs)) : ∃ a vs fp', v = .ref a ∧ H a = some (.lst vs) ∧ DenL P W H fp' vs xs := by
  cases oo with
  | false => obtain ⟨_, a, vs, ev, hh, hl⟩ := den_lf_inv h; exact ⟨a, vs, [], ev, rl.sub _ _ hh, hl.any⟩
  | true => obtain ⟨a, vs, fp', ev, hh, _, hl⟩ := den_lt_inv h; exact ⟨a, vs, fp', ev, hh, hl⟩
def gAll : List D → Option D
  | [.lst _ xs] => (boolsD xs).map fun bs => .bl (bs.all id)
  | _ => none
def gAny : List D → Option D
  | [.lst _ xs] => (boolsD xs).map fun bs => .bl (bs.any id)
  | _ => none
def gSum : List D → Option D
  | [.lst _ xs] => (intsD xs).map fun bs => .int bs.sum
  | _ => none
theorem cd_all {K : PySem.W.Frag} : CallD P gAll (rAll K) := by
  constructor
  intro W H O Ms σ z vs ds d Q rl hb e k
  unfold gAll at e
  split at e
  · rename_i oo xs
    obtain ⟨v, fp, rfl, hd, _⟩ := bor1 hb
    cases q : boolsD xs with
    | none => rw [q] at e; cases e
    | some bs =>
      rw [q] at e; cases e
      obtain ⟨a, vs, fp', ev, hh, hl⟩ := rl.lstAt hd
      rw [boolsD_inv q] at hl
      subst ev
      exact ⟨a, bs, rfl, by rw [← denL_bools hl]; exact SqL.of hh, k _ W H [] rl .refl den_bl .nil⟩
  · cases e
theorem cd_any {K : PySem.W.Frag} : CallD P gAny (rAny K) := by
  constructor
  intro W H O Ms σ z vs ds d Q rl hb e k
  unfold gAny at e
  split at e
  · rename_i oo xs
    obtain ⟨v, fp, rfl, hd, _⟩ := bor1 hb
    cases q : boolsD xs with
    | none => rw [q] at e; cases e
    | some bs =>
      rw [q] at e; cases e
      obtain ⟨a, vs, fp', ev, hh, hl⟩ := rl.lstAt hd
      rw [boolsD_inv q] at hl
      subst ev
      exact ⟨a, bs, rfl, by rw [← denL_bools hl]; exact SqL.of hh, k _ W H [] rl .refl den_bl .nil⟩
  · cases e
theorem cd_sum {K : PySem.W.Frag} : CallD P gSum (rSum K) := by
  constructor
  intro W H O Ms σ z vs ds d Q rl hb e k
  unfold gSum at e
  split at e
  · rename_i oo xs
    obtain ⟨v, fp, rfl, hd, _⟩ := bor1 hb
    cases q : intsD xs with
    | none => rw [q] at e; cases e
    | some bs =>
      rw [q] at e; cases e
      obtain ⟨a, vs, fp', ev, hh, hl⟩ := rl.lstAt hd
      rw [intsD_inv q] at hl
      subst ev
      exact ⟨a, bs, rfl, by rw [← denL_ints hl]; exact SqL.of hh, k _ W H [] rl .refl den_int .nil⟩
  · cases e
/-- tuple(x), list(x) -/
def gTuple : List D → Option D
  | [d] => (items d).map .tup
  | _ => none
def gList : List D → Option D
  | [d] => (items d).map (.lst true)
  | _ => none
theorem cd_tuple {K : PySem.W.Frag} : CallD P gTuple (fun xs H Q => ∃ p ys, xs = [.ref p] ∧ ((SqL K H p ys ∧ ∀ l, H l = none → Q (.ref l) (upd H l (.tup ys))) ∨ (SqT K H p ys ∧ Q (.ref p) H))) := by
  constructor
  intro W H O Ms σ z vs ds d Q rl hb e k
  unfold gTuple at e
  split at e
  · rename_i d0
    obtain ⟨v, fp, rfl, hd, _⟩ := bor1 hb
    cases q : items d0 with
    | none => rw [q] at e; cases e
    | some xs =>
      rw [q] at e; cases e
      obtain ⟨a, vs, ev, hl, hh⟩ := rl.items q hd
      subst ev
      rcases hh with ⟨_, h1, h2, _⟩ | ⟨_, h1⟩
      · exact ⟨a, vs, rfl, .inr ⟨SqT.of h1, k _ W H [] rl .refl (den_tup h2 hl) .nil⟩⟩
      · refine ⟨a, vs, rfl, .inl ⟨SqL.of h1, fun p hp => ?_⟩⟩
        obtain ⟨W', r, s, dn⟩ := rl.tup hp hl.any
        exact k _ _ _ _ r s dn .nil
  · cases e
theorem cd_list {K : PySem.W.Frag} : CallD P gList (fun xs H Q => ∃ p ys, xs = [.ref p] ∧ (SqL K H p ys ∨ SqT K H p ys) ∧ ∀ l, H l = none → Q (.ref l) (upd H l (.lst ys))) := by
  constructor
  intro W H O Ms σ z vs ds d Q rl hb e k
  unfold gList at e
  split at e
  · rename_i d0
    obtain ⟨v, fp, rfl, hd, _⟩ := bor1 hb
    cases q : items d0 with
    | none => rw [q] at e; cases e
    | some xs =>
      rw [q] at e; cases e
      obtain ⟨a, vs, ev, hl, hh⟩ := rl.items q hd
      subst ev
      refine ⟨a, vs, rfl, ?_, fun p hp => ?_⟩
      · rcases hh with ⟨_, h1, _⟩ | ⟨_, h1⟩
        · exact .inr (SqT.of h1)
        · exact .inl (SqL.of h1)
      · obtain ⟨r, s, dn, ow⟩ := rl.lst0 hp hl.any
        exact k _ _ _ _ r s dn ow
  · cases e
end
end G

namespace G
open PySem L2
inductive Fl where
  | nx | rt (d : D) | bk | ct
structure RelR (P : Par) (W : Wd) (H : Hp) (fp M : List Addr) (v : V) (d : D) (s : List Ob) : Prop where
  sub : ∀ a o, W.F a = some o → H a = some o
  den : Den P W H fp v d
  st : DenS P W H M W.oas s
  nd : (fp ++ M).Nodup
  off : ∀ a ∈ fp ++ M, W.F a = none
def PostS (P : Par) (Wx : WX) (Dn : Ends) (W : Wd) (H : Hp) (O M : List Addr) : R Fl → Prop
  | .ok .nx z => ∀ σ' W' H' O' M', Rel P W' H' O' M' σ' z → Stp (M ++ O) W W' H H' O O' M M' → Dn.nx σ' H'
  | .ok .bk z => ∀ σ' W' H' O' M', Rel P W' H' O' M' σ' z → Stp (M ++ O) W W' H H' O O' M M' → Dn.bk σ' H'
  | .ok .ct z => ∀ σ' W' H' O' M', Rel P W' H' O' M' σ' z → Stp (M ++ O) W W' H H' O O' M M' → Dn.ct σ' H'
  | .ok (.rt d) z => ∀ v W' H' M' fp, RelR P W' H' fp M' v d z.st → Stp (M ++ O) W W' H H' O fp M M' → Dn.rt v H'
  | .exc c fs z => ∀ cls dx σ' W' H' O' M', Rel P W' H' O' M' σ' z → Stp (M ++ O) W W' H H' O O' M M' → ExcR P W' c fs cls dx H' → Wx cls dx σ' H'
  | .stk => False
section
variable {P : Par} {Wx : WX} {Dn : Ends} {σ : St} {W W1 : Wd} {H H1 : Hp} {O O1 Ms M1 : List Addr} {α : Type}
theorem PostS.later {r : R Fl} (s : Stp (Ms ++ O) W W1 H H1 O O1 Ms M1) (h : PostS P Wx Dn W H O Ms r) : PostS P Wx Dn W1 H1 O1 M1 r := by
  cases r with
  | ok f z =>
    cases f with
    | nx => exact fun σ' W' H' O' M' rl st => h σ' W' H' O' M' rl (s.transS st)
    | bk => exact fun σ' W' H' O' M' rl st => h σ' W' H' O' M' rl (s.transS st)
    | ct => exact fun σ' W' H' O' M' rl st => h σ' W' H' O' M' rl (s.transS st)
    | rt d => exact fun v W' H' M' fp rl st => h v W' H' M' fp rl (s.transS st)
  | exc c fs z => exact fun cls dx σ' W' H' O' M' rl st => h cls dx σ' W' H' O' M' rl (s.transS st)
  | stk => exact h
theorem PostS.mono {Dn' : Ends} {r : R Fl} (h : PostS P Wx Dn W H O Ms r) (k1 : ∀ σ H, Dn.nx σ H → Dn'.nx σ H) (k2 : ∀ v H, Dn.rt v H → Dn'.rt v H) (k3 : ∀ σ H, Dn.bk σ H → Dn'.bk σ H) (k4 : ∀ σ H, Dn.ct σ H → Dn'.ct σ H) : PostS P Wx Dn' W H O Ms r := by
  cases r with
  | ok f z =>
    cases f with
    | nx => exact fun σ' W' H' O' M' rl st => k1 _ _ (h σ' W' H' O' M' rl st)
    | bk => exact fun σ' W' H' O' M' rl st => k3 _ _ (h σ' W' H' O' M' rl st)
    | ct => exact fun σ' W' H' O' M' rl st => k4 _ _ (h σ' W' H' O' M' rl st)
    | rt d => exact fun v W' H' M' fp rl st => k2 _ _ (h v W' H' M' fp rl st)
  | exc c fs z => exact h
  | stk => exact h
/-- an expression ahead; the end as seen from the start, and from there on -/
theorem PostS.bind {m : M α} {f : α → M Fl} {z : Z} (h : PostS P Wx Dn W H O Ms (bnd m f z)) :
    Post P Wx σ W H O Ms (fun a z1 W1 H1 O1 M1 => PostS P Wx Dn W H O Ms (f a z1) ∧ PostS P Wx Dn W1 H1 O1 M1 (f a z1)) (m z) := by
  unfold bnd at h
  cases e : m z with
  | ok a z1 =>
    rw [e] at h
    exact fun W' H' O' M' rl st => ⟨h, PostS.later st.es h⟩
  | exc c fs z1 =>
    rw [e] at h
    exact fun cls dx W' H' O' M' rl st => h cls dx σ W' H' O' M' rl st.es
  | stk => rw [e] at h; exact h
def fSeq (Fa Fb : M Fl) : M Fl := bnd Fa fun f => match f with
  | .nx => Fb
  | f => ret f
theorem PostS.seq {Fa Fb : M Fl} {z : Z} (h : PostS P Wx Dn W H O Ms (fSeq Fa Fb z)) :
    PostS P Wx { Dn with nx := fun σ1 H1 => ∃ z1 W1 O1 M1, Rel P W1 H1 O1 M1 σ1 z1 ∧ Stp (Ms ++ O) W W1 H H1 O O1 Ms M1 ∧ PostS P Wx Dn W1 H1 O1 M1 (Fb z1) } W H O Ms (Fa z) := by
  unfold fSeq bnd at h
  cases e : Fa z with
  | ok f z1 =>
    rw [e] at h
    cases f with
    | nx => exact fun σ' W' H' O' M' rl st => ⟨z1, W', O', M', rl, st, PostS.later st h⟩
    | bk => exact h
    | ct => exact h
    | rt d => exact h
  | exc c fs z1 => rw [e] at h; exact h
  | stk => rw [e] at h; exact h
end

def JS (X : Cx) (P : Par) (Wx : WX) (s : Stmt) (F : M Fl) : Prop :=
  ∃ ts, PS X s ts ∧ ∀ z W H O Ms σ Dn, Rel P W H O Ms σ z → PostS P Wx Dn W H O Ms (F z) → ts Dn σ H
def JSs (X : Cx) (P : Par) (Wx : WX) (s : List Stmt) (F : M Fl) : Prop :=
  ∃ ts, PSs X s ts ∧ ∀ z W H O Ms σ Dn, Rel P W H O Ms σ z → PostS P Wx Dn W H O Ms (F z) → ts Dn σ H

section
variable {X : Cx} {P : Par} {Wx : WX} {a b c e o : Expr} {es rest : List Expr} {Fa Fb Fc F : M D} {Fs : M (List D)} {Ta : M Bool} {Sa Sb : M Fl} {pos : Pos} {st : Stmt} {sts ss : List Stmt}
theorem jss_nil : JSs X P Wx [] (ret .nx) := ⟨_, pss_nil, fun z W H O Ms σ Dn rl p => p σ W H O Ms rl .refl⟩
theorem jss_one (h : JS X P Wx st Sa) : JSs X P Wx [st] Sa := by
  obtain ⟨t, p, k⟩ := h
  exact ⟨_, pss_one p, k⟩
theorem jss_cons (h1 : JS X P Wx st Sa) (h2 : JSs X P Wx sts Sb) : JSs X P Wx (st :: sts) (fSeq Sa Sb) := by
  obtain ⟨t1, p1, k1⟩ := h1
  obtain ⟨t2, p2, k2⟩ := h2
  refine ⟨_, pss_cons p1 p2, fun z W H O Ms σ Dn rl p => ?_⟩
  refine k1 z W H O Ms σ _ rl (PostS.mono p.seq (fun σ1 H1 ⟨z1, W1, O1, M1, rl1, _, q⟩ => k2 z1 W1 H1 O1 M1 σ1 Dn rl1 q) (fun _ _ x => x) (fun _ _ x => x) fun _ _ x => x)
theorem js_pass : JS X P Wx (.Pass pos) (ret .nx) := ⟨_, ps_pass, fun z W H O Ms σ Dn rl p => p σ W H O Ms rl .refl⟩
theorem js_break : JS X P Wx (.Break pos) (ret .bk) := ⟨_, ps_break, fun z W H O Ms σ Dn rl p => p σ W H O Ms rl .refl⟩
theorem js_continue : JS X P Wx (.Continue pos) (ret .ct) := ⟨_, ps_continue, fun z W H O Ms σ Dn rl p => p σ W H O Ms rl .refl⟩
def fDrop (F : M D) : M Fl := bnd F fun _ => ret .nx
theorem js_expr (ha : JB X P Wx e F) (hs : swapsWith e none pos.line X.env = pure false := by rfl) : JS X P Wx (.Expr e pos) (fDrop F) := by
  obtain ⟨te, pe, ke⟩ := ha
  refine ⟨_, ps_expr pe hs, fun z W H O Ms σ Dn rl p => ?_⟩
  exact ke z W H O Ms σ _ rl (p.bind.mono fun d z1 W1 H1 O1 M1 rl1 st1 ⟨_, q⟩ v fp hd ho => q σ W1 H1 O1 M1 rl1 .refl)
theorem Rel.r {W : Wd} {H0 H : Hp} {O Ms fp : List Addr} {σ : St} {z : Z} {v : V} {d : D} (rl : Rel P W H O Ms σ z) (hd : Den P W H fp v d) (ho : Own H0 W O Ms fp) : RelR P W H fp Ms v d z.st :=
  ⟨rl.sub, hd, rl.st, List.nodup_append.mpr ⟨ho.nd, (List.nodup_append.mp rl.nd).2.1, fun a ha b hb q => by subst q; exact ho.oM a ha hb⟩, fun a ha => (List.mem_append.mp ha).elim (ho.oF a) fun h => rl.off a (List.mem_append_right _ h)⟩
theorem Stp.r {Z : List Addr} {W W1 : Wd} {H H1 : Hp} {O O1 M M1 fp : List Addr} (s : Stp Z W W1 H H1 O O1 M M1) (h : ∀ a ∈ fp, a ∈ O ∨ H a = none) : Stp Z W W1 H H1 O fp M M1 := ⟨s.le, s.keep, s.dom, s.fF, h, s.fM⟩
def fRet (F : M D) : M Fl := bnd F fun d => ret (.rt d)
theorem js_ret (ha : JE X P Wx e F) : JS X P Wx (.Return (some e) pos) (fRet F) := by
  obtain ⟨te, pe, ke⟩ := ha
  refine ⟨_, ps_ret pe, fun z W H O Ms σ Dn rl p => ?_⟩
  exact ke z W H O Ms σ _ rl (p.bind.mono fun d z1 W1 H1 O1 M1 rl1 st1 ⟨q, _⟩ v fp hd ho => q v W1 H1 M1 fp (rl1.r hd ho) (st1.es.r fun a ha => .inr (ho.new a ha)))
/-- return x, x a local: with what it owns -/
def fRetV (i : Nat) : M Fl := fun z => match z.env[i]? with
  | some (some d) => .ok (.rt d) z
  | _ => .stk
theorem js_retV {i : Nat} {x : Str} {p1 : Pos} (hN : X.N[i]? = some x) (hv : Vis X.env.scope x) (hd : (x == ("__debug__" : Str)) = false := by decide) (hcd : (x == ("__classdict__" : Str)) = false := by decide) : JS X P Wx (.Return (some (.Name x p1)) pos) (fRetV i) := by
  refine ⟨_, ps_ret (pe_var hN hv hd hcd), fun z W H O Ms σ Dn rl p => ?_⟩
  unfold fRetV at p
  split at p
  · rename_i d e
    obtain ⟨v, o1, om, o2, eo, ev, hden, _⟩ := rl.env.split e
    have nd := rl.nd
    rw [eo] at nd
    refine ⟨v, ev, p v W H Ms om ⟨rl.sub, hden, rl.st, ?_, fun a ha => rl.off a ?_⟩ (Stp.refl.r fun a ha => .inl (by rw [eo]; simp [ha]))⟩
    · refine nd.sublist ?_
      exact List.Sublist.append ((List.sublist_append_left _ _).trans (List.sublist_append_right _ _)) (List.Sublist.refl _)
    · rw [eo]
      rcases List.mem_append.mp ha with h | h <;> simp [h]
  · exact p.elim
theorem js_retN : JS X P Wx (.Return none pos) (ret (.rt .non)) := by
  refine ⟨_, ps_retN, fun z W H O Ms σ Dn rl p => ?_⟩
  exact p .non W H Ms [] (rl.r (H0 := H) den_non .nil) (Stp.refl.r fun _ h => by simp at h)
theorem js_if (hc : JT X P Wx c Ta) (h1 : JSs X P Wx ss Sa) (h2 : JSs X P Wx sts Sb) : JS X P Wx (.If c ss sts pos) (fIf Ta Sa Sb) := by
  obtain ⟨tc, pc, kc⟩ := hc
  obtain ⟨t1, p1, k1⟩ := h1
  obtain ⟨t2, p2, k2⟩ := h2
  refine ⟨_, ps_if pc p1 p2, fun z W H O Ms σ Dn rl p => ?_⟩
  refine kc z W H O Ms σ _ rl (p.bind.mono fun d z1 W1 H1 O1 M1 rl1 st1 ⟨_, q⟩ => ?_)
  cases d with
  | true => exact k1 z1 W1 H1 O1 M1 σ Dn rl1 q
  | false => exact k2 z1 W1 H1 O1 M1 σ Dn rl1 q

/-! ### names stored -/
def setE (i : Nat) (d : D) : M Unit := fun z => if i < z.env.length then .ok () { z with env := z.env.set i (some d) } else .stk
theorem Rel.set {W : Wd} {H0 H : Hp} {O Ms fp : List Addr} {σ : St} {z : Z} {v : V} {d : D} {i : Nat} (rl : Rel P W H O Ms σ z) (hi : i < z.env.length) (hd : Den P W H fp v d) (ho : Own H0 W O Ms fp) :
    ∃ O', Rel P W H O' Ms (σ.set i (some v)) { z with env := z.env.set i (some d) } ∧ ∀ a ∈ O', a ∈ O ∨ a ∈ fp := by
  obtain ⟨o1, o2, ⟨om, eo⟩, hn⟩ := rl.env.set hi hd
  have nd := rl.nd
  subst eo
  refine ⟨o1 ++ (fp ++ o2), ⟨rl.sub, hn, rl.st, ?_, fun a ha => ?_⟩, fun a ha => ?_⟩
  · have n0 : ((o1 ++ o2) ++ Ms).Nodup := nd.sublist (List.Sublist.append (List.Sublist.append (List.Sublist.refl _) (List.sublist_append_right _ _)) (List.Sublist.refl _))
    have n1 := List.nodup_append.mp n0
    have n2 := List.nodup_append.mp n1.1
    refine List.nodup_append.mpr ⟨List.nodup_append.mpr ⟨n2.1, List.nodup_append.mpr ⟨ho.nd, n2.2.1, ?_⟩, ?_⟩, n1.2.1, ?_⟩
    · intro a ha b hb q; subst q
      exact ho.oO a ha (by simp [hb])
    · intro a ha b hb q; subst q
      rcases List.mem_append.mp hb with hb | hb
      · exact ho.oO a hb (by simp [ha])
      · exact n2.2.2 a ha a hb rfl
    · intro a ha b hb q; subst q
      rcases List.mem_append.mp ha with ha | ha
      · exact n1.2.2 a (by simp [ha]) a hb rfl
      · rcases List.mem_append.mp ha with ha | ha
        · exact ho.oM a ha hb
        · exact n1.2.2 a (by simp [ha]) a hb rfl
  · rcases List.mem_append.mp ha with ha | ha
    · rcases List.mem_append.mp ha with ha | ha
      · exact rl.off a (by simp [ha])
      · rcases List.mem_append.mp ha with ha | ha
        · exact ho.oF a ha
        · exact rl.off a (by simp [ha])
    · exact rl.off a (by simp [ha])
  · rcases List.mem_append.mp ha with ha | ha
    · exact .inl (by simp [ha])
    · rcases List.mem_append.mp ha with ha | ha
      · exact .inr ha
      · exact .inl (by simp [ha])
def fSet (i : Nat) (F : M D) : M Fl := bnd F fun d => bnd (setE i d) fun _ => ret .nx
theorem js_set {i : Nat} {x : Str} {p1 : Pos} (hN : X.N.Nodup) (hi : X.N[i]? = some x) (hx : Loc X.env.scope x) (ha : JE X P Wx e F) (hs : swapsWith e (some (.Name x p1)) pos.line X.env = pure false := by rfl)
    (hf : X.fn x = true ∨ X.env.scope.names.lookup x = some .local := by first | exact .inl rfl | exact .inr rfl | assumption) : JS X P Wx (.Assign [.Name x p1] e pos) (fSet i F) := by
  obtain ⟨te, pe, ke⟩ := ha
  refine ⟨_, ps_set hN hi hx pe hs hf, fun z W H O Ms σ Dn rl p => ?_⟩
  refine ke z W H O Ms σ _ rl (p.bind.mono fun d z1 W1 H1 O1 M1 rl1 st1 ⟨q, _⟩ v fp hd ho => ?_)
  unfold bnd setE at q
  by_cases hl : i < z1.env.length
  · rw [if_pos hl] at q
    obtain ⟨O', rl2, hO⟩ := rl1.set hl hd ho
    exact q _ W1 H1 O' M1 rl2 ⟨st1.le, st1.es.keep, st1.dom, st1.fF, fun a ha => (hO a ha).elim (fun h => st1.fO a h) fun h => .inr (ho.new a h), st1.fM⟩
  · rw [if_neg hl] at q; exact q.elim
/-- x += e and the like, of a scalar -/
def fAug (i : Nat) (g : D → D → Option D) (F : M D) : M Fl := bnd (fVB i) fun x => bnd F fun y => bnd (lift (g x y)) fun d => bnd (setE i d) fun _ => ret .nx
end

/-! ### what a loop stores its items in -/
abbrev Tg := D → Z → Option Z
abbrev Tgs := List D → Z → Option Z
/-- only the slots ns differ -/
def Tch (ns : List Nat) (σ σ' : St) : Prop := σ'.length = σ.length ∧ ∀ j, j ∉ ns → σ'[j]? = σ[j]?
theorem Tch.refl {ns : List Nat} {σ : St} : Tch ns σ σ := ⟨rfl, fun _ _ => rfl⟩
theorem Tch.trans {n1 n2 : List Nat} {a b c : St} (h : Tch n1 a b) (k : Tch n2 b c) : Tch (n1 ++ n2) a c :=
  ⟨k.1.trans h.1, fun j hj => (k.2 j fun z => hj (List.mem_append_right _ z)).trans (h.2 j fun z => hj (List.mem_append_left _ z))⟩
def PostU (P : Par) (σ : St) (ns : List Nat) (Q : St → Hp → Prop) (W : Wd) (H : Hp) (O M : List Addr) : Option Z → Prop
  | some z => ∀ σ' W' H' O' M', Rel P W' H' O' M' σ' z → Stp M W W' H H' O O' M M' → Tch ns σ σ' → Q σ' H'
  | none => False
def JG (X : Cx) (P : Par) (t : Expr) (ns : List Nat) (T : Tg) : Prop :=
  ∃ g, PG X t g ∧ ∀ d v z W H O Ms σ Q, Rel P W H O Ms σ z → Den P W H [] v d → PostU P σ ns Q W H O Ms (T d z) → g v σ H Q
def JGs (X : Cx) (P : Par) (ts : List Expr) (ns : List Nat) (T : Tgs) : Prop :=
  ∃ g, PGs X ts g ∧ ∀ ds vs z W H O Ms σ Q, Rel P W H O Ms σ z → DenL P W H [] vs ds → PostU P σ ns Q W H O Ms (T ds z) → g vs σ H Q
def tName (i : Nat) : Tg := fun d z => if i < z.env.length then some { z with env := z.env.set i (some d) } else none
def tsNil : Tgs
  | [], z => some z
  | _, _ => none
def tsCons (T : Tg) (Ts : Tgs) : Tgs
  | d :: ds, z => (T d z).bind (Ts ds)
  | _, _ => none
def tTuple (n : Nat) (Ts : Tgs) : Tg
  | .tup ds, z => if ds.length = n then Ts ds z else none
  | _, _ => none
def bndT {α : Type} (o : Z → Option Z) (k : M α) : M α := fun z => match o z with
  | some z' => k z'
  | none => .stk
section
variable {X : Cx} {P : Par} {pos : Pos} {n1 n2 : List Nat} {T : Tg} {Ts : Tgs} {t : Expr} {ts : List Expr}
theorem jg_name {i : Nat} {x : Str} (hN : X.N.Nodup) (hi : X.N[i]? = some x) (hx : Loc X.env.scope x) (hf : X.fn x = true ∨ X.env.scope.names.lookup x = some .local := by first | exact .inl rfl | exact .inr rfl | assumption) : JG X P (.Name x pos) [i] (tName i) := by
  refine ⟨_, pg_name hN hi hx hf, fun d v z W H O Ms σ Q rl hd p => ?_⟩
  unfold tName at p
  by_cases hl : i < z.env.length
  · rw [if_pos hl] at p
    obtain ⟨O', rl2, hO⟩ := rl.set (H0 := H) hl hd .nil
    exact p _ W H O' Ms rl2 ⟨Wd.le.refl _, fun _ _ e _ => e, fun _ e => e, fun _ e => .inl e, fun a ha => (hO a ha).elim .inl fun h => by simp at h, fun _ h => .inl h⟩ ⟨by simp, fun j hj => List.getElem?_set_ne (by rintro rfl; simp at hj)⟩
  · rw [if_neg hl] at p; exact p.elim
theorem jgs_nil : JGs X P [] [] tsNil := by
  refine ⟨_, pgs_nil, fun ds vs z W H O Ms σ Q rl hd p => ?_⟩
  cases ds with
  | nil => rw [denL_nil] at hd; exact ⟨hd.1, p σ W H O Ms rl .refl .refl⟩
  | cons d ds => exact p.elim
theorem PostU.later {σ σ1 : St} {Q : St → Hp → Prop} {W W1 : Wd} {H H1 : Hp} {O O1 Ms M1 : List Addr} {r : Option Z} (s : Stp Ms W W1 H H1 O O1 Ms M1) (hc : Tch n1 σ σ1) (h : PostU P σ (n1 ++ n2) Q W H O Ms r) : PostU P σ1 n2 Q W1 H1 O1 M1 r := by
  cases r with
  | some z => exact fun σ' W' H' O' M' rl st hc' => h σ' W' H' O' M' rl (s.transE st) (hc.trans hc')
  | none => exact h
theorem jgs_cons (h1 : JG X P t n1 T) (h2 : JGs X P ts n2 Ts) (hs : (assignEach (t :: ts) X.env).map (·.2) = assign t X.env :: (assignEach ts X.env).map (·.2) := by rfl) : JGs X P (t :: ts) (n1 ++ n2) (tsCons T Ts) := by
  obtain ⟨g, pg, kg⟩ := h1
  obtain ⟨gs, pgs, kgs⟩ := h2
  refine ⟨_, pgs_cons pg pgs hs, fun ds vs z W H O Ms σ Q rl hd p => ?_⟩
  cases ds with
  | nil => exact p.elim
  | cons d ds =>
    rw [denL_cons] at hd
    obtain ⟨v, vs', fp1, fp2, e1, e2, hd1, hd2⟩ := hd
    obtain ⟨q1, q2⟩ := List.append_eq_nil_iff.mp e2.symm
    subst e1 q1 q2
    refine ⟨v, vs', rfl, kg d v z W H O Ms σ _ rl hd1 ?_⟩
    have p' : PostU P σ (n1 ++ n2) Q W H O Ms ((T d z).bind (Ts ds)) := p
    cases e : T d z with
    | some z1 =>
      rw [e] at p'
      intro σ' W' H' O' M' rl' st' hc'
      exact kgs ds vs' z1 W' H' O' M' σ' Q rl' (hd2.mono st'.le fun _ h => by simp at h) (PostU.later st' hc' p')
    | none => rw [e] at p'; exact p'
theorem jg_tup {k n : Nat} (hc : X.calm = true) (h : JGs X P ts n1 Ts) (hn : (assignEach ts X.env).length = n := by rfl) (hst : (assignEach ts X.env).findIdx? (·.1) = none := by rfl) : JG X P (.Tuple ts k pos) n1 (tTuple n Ts) := by
  obtain ⟨g, pg, kg⟩ := h
  refine ⟨_, pg_tup hc pg hn hst, fun d v z W H O Ms σ Q rl hd p => ?_⟩
  match d, p with
  | .tup ds, p =>
    have p' : PostU P σ n1 Q W H O Ms (if ds.length = n then Ts ds z else none) := p
    by_cases hl : ds.length = n
    · rw [if_pos hl] at p'
      obtain ⟨_, a, vs, ev, hh, hd⟩ := den_tup_inv hd
      exact ⟨a, vs, ev, SqT.of (rl.sub _ _ hh), hd.len.trans hl, kg ds vs z W H O Ms σ Q rl hd.any p'⟩
    · rw [if_neg hl] at p'; exact p'.elim
  | .non, p => exact p.elim
  | .bl _, p => exact p.elim
  | .int _, p => exact p.elim
  | .str _, p => exact p.elim
  | .lst _ _, p => exact p.elim
  | .dic _ _ _, p => exact p.elim
  | .obj _, p => exact p.elim
  | .exc _ _, p => exact p.elim
end

/-! ### what is walked -/
/-- J hands out the data ds, one behind the other, as long as what stands fixed stays -/
def Yields (P : Par) (W1 : Wd) (J : It) (ds : List D) : Prop := ∀ (W : Wd) (H : Hp) (O Ms : List Addr) (σ : St) (z : Z), Rel P W H O Ms σ z → W1.le W → ∀ i : Nat,
  (i < ds.length → J.go i H ∧ ∀ x H', J.yld i H x H' → ∃ W' d, ds[i]? = some d ∧ Rel P W' H' O Ms σ z ∧ Stp Ms W W' H H' O O Ms Ms ∧ Den P W' H' [] x d) ∧ (ds.length ≤ i → J.stop i H)
def JI (X : Cx) (P : Par) (Wx : WX) (tg e : Expr) (F : M (List D)) : Prop :=
  ∃ wi, PI X tg e wi ∧ ∀ z W H O Ms σ R, Rel P W H O Ms σ z → Post P Wx σ W H O Ms (fun ds z1 W1 H1 O1 M1 => ∀ J, Yields P W1 J ds → R J H1) (F z) → wi σ H R
def forL (T : Tg) (B : M Fl) : List D → M Fl
  | [] => ret .nx
  | d :: ds => bndT (T d) <| bnd B fun f => match f with
    | .nx => forL T B ds
    | .ct => forL T B ds
    | .bk => ret .nx
    | .rt d => ret (.rt d)
def fFor (Fi : M (List D)) (T : Tg) (B : M Fl) : M Fl := bnd Fi fun ds => forL T B ds
section
variable {X : Cx} {P : Par} {Wx : WX} {tg iter e : Expr} {body : List Stmt} {pos : Pos} {ns : List Nat} {T : Tg} {B : M Fl} {Fi : M (List D)} {F : M D}
theorem drop_get {α : Type} {l : List α} {i : Nat} {x : α} (h : l[i]? = some x) : l.drop i = x :: l.drop (i + 1) := by
  obtain ⟨hi, e⟩ := List.getElem?_eq_some_iff.mp h
  rw [List.drop_eq_getElem_cons hi, e]
theorem js_for (hp : PassesOwn (model X.prog X.w) X.A X.env X.xe) (hc : X.calm = true) (hi : JI X P Wx tg iter Fi) (hg : JG X P tg ns T) (hb : JSs X P Wx body B) (hs : ∀ x, foldedSetIterable iter X.env x = pure x := by intro _; rfl) :
    JS X P Wx (.For tg iter body [] pos) (fFor Fi T B) := by
  obtain ⟨wi, pi, ki⟩ := hi
  obtain ⟨g, pg, kg⟩ := hg
  obtain ⟨tb, pb, kb⟩ := hb
  refine ⟨_, ps_for hp hc pi pg pb hs, fun z W H O Ms σ Dn rl p => ?_⟩
  refine ki z W H O Ms σ _ rl (p.bind.mono fun ds z1 W1 H1 O1 M1 rl1 st1 ⟨_, q⟩ J hJ => ?_)
  refine ⟨fun i m σ' H' => m = ds.length - i ∧ i ≤ ds.length ∧ ∃ z2 W2 O2 M2, Rel P W2 H' O2 M2 σ' z2 ∧ W1.le W2 ∧ PostS P Wx Dn W2 H' O2 M2 (forL T B (ds.drop i) z2), ⟨ds.length, by simp, Nat.zero_le _, z1, W1, O1, M1, rl1, Wd.le.refl _, q⟩, ?_⟩
  rintro i m σ' H' ⟨rfl, hil, z2, W2, O2, M2, rl2, le2, q2⟩
  obtain ⟨y1, y2⟩ := hJ W2 H' O2 M2 σ' z2 rl2 le2 i
  by_cases hlt : i < ds.length
  · obtain ⟨go, yl⟩ := y1 hlt
    refine .inr ⟨go, fun σ3 H3 => i + 1 ≤ ds.length ∧ ∃ z3 W3 O3 M3, Rel P W3 H3 O3 M3 σ3 z3 ∧ W1.le W3 ∧ PostS P Wx Dn W3 H3 O3 M3 (forL T B (ds.drop (i + 1)) z3), fun σ3 H3 h => ⟨ds.length - (i + 1), by omega, rfl, h.1, h.2⟩, fun x H3 hy => ?_⟩
    obtain ⟨W3, d, ed, rl3, st3, hd⟩ := yl x H3 hy
    rw [drop_get ed] at q2
    have q3 := PostS.later st3.es q2
    refine kg d x z2 W3 H3 O2 M2 σ' _ rl3 hd ?_
    unfold forL bndT at q3
    cases e1 : T d z2 with
    | none => rw [e1] at q3; exact q3.elim
    | some z4 =>
      rw [e1] at q3
      intro σ4 W4 H4 O4 M4 rl4 st4 _
      have q4 := PostS.later st4.es q3
      refine kb z4 W4 H4 O4 M4 σ4 _ rl4 ?_
      have le4 : W1.le W4 := le2.trans (st3.le.trans st4.le)
      change PostS P Wx Dn W4 H4 O4 M4 (bnd B (fun f => match f with
        | .nx => forL T B (ds.drop (i + 1))
        | .ct => forL T B (ds.drop (i + 1))
        | .bk => ret .nx
        | .rt d => ret (.rt d)) z4) at q4
      unfold bnd at q4
      cases e2 : B z4 with
      | stk => rw [e2] at q4; exact q4
      | exc c fs z5 => rw [e2] at q4; exact q4
      | ok f z5 =>
        rw [e2] at q4
        cases f with
        | nx => exact fun σ5 W5 H5 O5 M5 rl5 st5 => ⟨hlt, z5, W5, O5, M5, rl5, le4.trans st5.le, PostS.later st5 q4⟩
        | ct => exact fun σ5 W5 H5 O5 M5 rl5 st5 => ⟨hlt, z5, W5, O5, M5, rl5, le4.trans st5.le, PostS.later st5 q4⟩
        | bk => exact q4
        | rt d => exact q4
  · have hle : ds.length ≤ i := by omega
    refine .inl ⟨y2 hle, ?_⟩
    rw [List.drop_eq_nil_of_le hle] at q2
    exact q2 σ' W2 H' O2 M2 rl2 .refl
end
end G

namespace G
open PySem L2
section
variable {X : Cx} {P : Par} {Wx : WX} {tg iter e e2 : Expr} {es : List Expr} {body : List Stmt} {pos tpos p : Pos} {T : Tg} {B : M Fl} {Fi : M (List D)} {F Fa Fb : M D} {Fs : M (List D)} {Ta : M Bool} {c : Expr}
/-! ### what is walked -/
def walked : D → Option (List D)
  | .str l => some (l.map fun c => .str [c])
  | d => items d
theorem PI.or {w1 w2 : TI} (h1 : PI X tg e w1) (h2 : PI X tg e w2) : PI X tg e (fun σ H R => w1 σ H R ∨ w2 σ H R) :=
  ⟨fun pins s σ H R I h => h.elim (h1.run pins s σ H R I) (h2.run pins s σ H R I)⟩
theorem yields_lst {K : PySem.W.Frag} {W1 : Wd} {a : Addr} {vs : List V} {ds : List D} (ha : W1.F a = some (.lst vs)) (hl : DenL P W1 W1.F [] vs ds) : Yields P W1 (Itl K a) ds := by
  intro W H O Ms σ z rl le i
  have hs : SqL K H a vs := SqL.of (rl.sub _ _ (le.F _ _ ha))
  have hlen := hl.len
  refine ⟨fun hi => ?_, fun hi => ⟨vs, hs, by omega⟩⟩
  obtain ⟨d, hd⟩ : ∃ d, ds[i]? = some d := ⟨_, List.getElem?_eq_getElem hi⟩
  obtain ⟨v, fp', ev, hv, hf⟩ := hl.get hd
  have e0 : fp' = [] := List.eq_nil_iff_forall_not_mem.mpr fun a h => by have := hf a h; simp at this
  subst e0
  refine ⟨⟨vs, v, hs, ev⟩, fun x H' hy => ?_⟩
  obtain ⟨rfl, hy⟩ := hy
  have e1 := hy vs hs
  rw [ev] at e1
  cases e1
  exact ⟨W, d, hd, rl, .refl, (hv.mono le fun _ h => by simp at h)⟩
theorem yields_tup {K : PySem.W.Frag} {W1 : Wd} {a : Addr} {vs : List V} {ds : List D} (ha : W1.F a = some (.tup vs)) (hl : DenL P W1 W1.F [] vs ds) : Yields P W1 (Itt K a) ds := by
  intro W H O Ms σ z rl le i
  have hs : SqT K H a vs := SqT.of (rl.sub _ _ (le.F _ _ ha))
  have hlen := hl.len
  refine ⟨fun hi => ?_, fun hi => ⟨vs, hs, by omega⟩⟩
  obtain ⟨d, hd⟩ : ∃ d, ds[i]? = some d := ⟨_, List.getElem?_eq_getElem hi⟩
  obtain ⟨v, fp', ev, hv, hf⟩ := hl.get hd
  have e0 : fp' = [] := List.eq_nil_iff_forall_not_mem.mpr fun a h => by have := hf a h; simp at this
  subst e0
  refine ⟨⟨vs, v, hs, ev⟩, fun x H' hy => ?_⟩
  obtain ⟨rfl, hy⟩ := hy
  have e1 := hy vs hs
  rw [ev] at e1
  cases e1
  exact ⟨W, d, hd, rl, .refl, (hv.mono le fun _ h => by simp at h)⟩
theorem yields_str {W1 : Wd} {l : List Nat} (ok : okS l = true) : Yields P W1 (Its (sOf l)) (l.map fun c => .str [c]) := by
  intro W H O Ms σ z rl le i
  have hsz : (sOf l).cps.size = l.length := by simp
  refine ⟨fun hi => ?_, fun hi => ?_⟩
  · rw [List.length_map] at hi
    refine ⟨by show i < (sOf l).cps.size; omega, fun x H' hy => ?_⟩
    obtain ⟨rfl, c, hc, rfl⟩ := hy
    have hc' : l[i]? = some c := by simpa using hc
    refine ⟨W, .str [c], by rw [List.getElem?_map, hc']; rfl, rl, .refl, den_str (okS_one ok (List.mem_of_getElem? hc'))⟩
  · rw [List.length_map] at hi
    show (sOf l).cps.size ≤ i
    omega
def fWalk (F : M D) : M (List D) := bnd F fun d => lift (walked d)
/-- a value fixed, with what it owns -/
theorem walked_items {d : D} {ds : List D} (h : walked d = some ds) : (∃ l, d = .str l ∧ ds = l.map fun c => .str [c]) ∨ items d = some ds := by
  unfold walked at h
  split at h
  · rename_i l; cases h; exact .inl ⟨l, rfl, rfl⟩
  · exact .inr h
theorem ji_seq (ha : JE X P Wx e F) : JI X P Wx tg e (fWalk F) := by
  obtain ⟨te, pe, ke⟩ := ha
  refine ⟨_, PI.or (pi_list pe) (PI.or (pi_tup pe) (pi_str pe)), fun z W H O Ms σ R rl p => ?_⟩
  -- the value's form is known ahead
  have key : ∀ (Q : VK), (∀ d z1 W1 H1 O1 M1, Rel P W1 H1 O1 M1 σ z1 → Stp Ms W W1 H H1 O O1 Ms M1 → F z = .ok d z1 → KE P H Q d z1 W1 H1 O1 M1) → te σ H Q := by
    intro Q hQ
    refine ke z W H O Ms σ Q rl ?_
    have p0 := p.bind0
    cases eF : F z with
    | ok d z1 => exact fun W1 H1 O1 M1 rl1 st1 => hQ d z1 W1 H1 O1 M1 rl1 st1 eF
    | exc c fs z1 => rw [eF] at p0; exact p0
    | stk => rw [eF] at p0; exact p0
  have p0 := p.bind0
  cases eF : F z with
  | stk => rw [eF] at p0; exact p0.elim
  | exc c fs z1 =>
    rw [eF] at p0
    refine .inl (key _ fun d z1 W1 H1 O1 M1 rl1 st1 eq => ?_)
    rw [eF] at eq; cases eq
  | ok d z1 =>
    unfold fWalk at p
    have p1 : Post P Wx σ W H O Ms (fun ds z1 W1 H1 O1 M1 => ∀ J, Yields P W1 J ds → R J H1) (lift (walked d) z1) := by
      have : bnd F (fun d => lift (walked d)) z = lift (walked d) z1 := by unfold bnd; rw [eF]
      rw [this] at p; exact p
    obtain ⟨ds, ed, kk⟩ := p1.lift'
    rcases walked_items ed with ⟨l, rfl, rfl⟩ | hit
    · refine .inr (.inr (key _ fun d' z1' W1 H1 O1 M1 rl1 st1 eq v fp hd ho => ?_))
      rw [eF] at eq; cases eq
      obtain ⟨ev, _, ok⟩ := den_str_inv hd
      exact ⟨sOf l, ev, kk W1 H1 O1 M1 rl1 st1 _ (yields_str ok)⟩
    · match d, hit, ed with
      | .tup xs, hit, ed =>
        cases hit
        refine .inr (.inl (key _ fun d' z1' W1 H1 O1 M1 rl1 st1 eq v fp hd ho => ?_))
        rw [eF] at eq; cases eq
        obtain ⟨_, a, vs, ev, hh, hl⟩ := den_tup_inv hd
        exact ⟨a, ev, ⟨vs, SqT.of (rl1.sub _ _ hh)⟩, kk W1 H1 O1 M1 rl1 st1 _ (yields_tup hh hl)⟩
      | .lst false xs, hit, ed =>
        cases hit
        refine .inl (key _ fun d' z1' W1 H1 O1 M1 rl1 st1 eq v fp hd ho => ?_)
        rw [eF] at eq; cases eq
        obtain ⟨_, a, vs, ev, hh, hl⟩ := den_lf_inv hd
        exact ⟨a, ev, ⟨vs, SqL.of (rl1.sub _ _ hh)⟩, kk W1 H1 O1 M1 rl1 st1 _ (yields_lst hh hl)⟩
      | .lst true xs, hit, ed =>
        refine .inl (key _ fun d' z1' W1 H1 O1 M1 rl1 st1 eq v fp hd ho => ?_)
        rw [eF] at eq; cases eq
        have hs1 : ∀ a ∈ fp, H1 a ≠ none := fun a ha => hd.stands ha
        have rl2 := rl1.fix hs1 ho
        obtain ⟨a, vs, fp', ev, hh, ef, hl⟩ := den_lt_inv hd
        have no : xs.all notOwn = true := by
          by_cases n : xs.all notOwn = true
          · exact n
          · rw [items_lt, if_neg n] at hit; cases hit
        rw [items_lt, if_pos no] at hit
        cases hit
        have e0 := hl.notOwn no
        subst e0
        have hF : (W1.add H1 fp).F a = some (.lst vs) := by rw [Wd.add_at (by rw [ef]; simp)]; exact hh
        exact ⟨a, ev, ⟨vs, SqL.of hh⟩, kk _ H1 O1 M1 rl2 (st1.fix ho) _ (yields_lst hF (hl.mono (Wd.add_le ho.oF) fun _ h => by simp at h))⟩
def asI1 : List D → Option (List D)
  | [.int n] => if -4611686018427387904 ≤ n ∧ n < 4611686018427387904 then some ((List.range n.toNat).map fun (k : Nat) => .int (k : Int)) else none
  | _ => none
def asI2 : List D → Option (List D)
  | [.int i, .int j] => if (-4611686018427387904 ≤ i ∧ i < 4611686018427387904) ∧ (-4611686018427387904 ≤ j ∧ j < 4611686018427387904) then some ((List.range (j - i).toNat).map fun (k : Nat) => .int (i + (k : Int))) else none
  | _ => none
/-- only one step downwards is told -/
def asI3 : List D → Option (List D)
  | [.int i, .int j, .int (-1)] => if (-4611686018427387904 ≤ i ∧ i < 4611686018427387904) ∧ (-4611686018427387904 ≤ j ∧ j < 4611686018427387904) then some ((List.range (i - j).toNat).map fun (k : Nat) => .int (i - (k : Int))) else none
  | _ => none
def fRange (g : List D → Option (List D)) (Fs : M (List D)) : M (List D) := bnd Fs fun ds => lift (g ds)
theorem yields_ints {W1 : Wd} {J : It} {n : Nat} {f : Nat → Int} (h1 : ∀ i H, i < n → J.go i H) (h2 : ∀ i H x H', J.yld i H x H' → H' = H ∧ x = .int (f i)) (h3 : ∀ i H, n ≤ i → J.stop i H) : Yields P W1 J ((List.range n).map fun k => .int (f k)) := by
  intro W H O Ms σ z rl le i
  refine ⟨fun hi => ?_, fun hi => h3 i H (by simpa using hi)⟩
  have hi' : i < n := by simpa using hi
  refine ⟨h1 i H hi', fun x H' hy => ?_⟩
  obtain ⟨rfl, rfl⟩ := h2 i H x H' hy
  exact ⟨W, .int (f i), by rw [List.getElem?_map, List.getElem?_range hi']; rfl, rl, .refl, den_int⟩
theorem ji_range1 (hg : Gl X "range") (hm : X.mg "range" = none) (ha : JBs X P Wx [e] Fs) (hs : starEach [e] X.env = [(false, eval e X.env)] := by rfl) : JI X P Wx tg (.Call (.Name "range" p) [e] [] pos) (fRange asI1 Fs) := by
  obtain ⟨ts, ps, ks⟩ := ha
  refine ⟨_, pi_range1 hg hm ps hs, fun z W H O Ms σ R rl q => ?_⟩
  refine ks z W H O Ms σ _ rl (q.bind.mono fun ds z1 W1 H1 O1 M1 rl1 st1 ⟨_, _, q1⟩ vs hvs => ?_)
  obtain ⟨xs, ed, kk⟩ := Post.lift rl1 q1
  match ds, ed with
  | [.int n], ed =>
    obtain ⟨v, fp, rfl, hd, _⟩ := bor1 hvs
    rw [(den_int_inv hd).1]
    have ed' : (if -4611686018427387904 ≤ n ∧ n < 4611686018427387904 then some ((List.range n.toNat).map fun (k : Nat) => D.int (k : Int)) else none) = some xs := ed
    split at ed'
    · rename_i hc
      cases ed'
      refine ⟨n, rfl, hc.1, hc.2, kk _ ?_⟩
      exact yields_ints (f := fun k => (k : Int)) (fun i H h => h) (fun i H x H' h => ⟨h.1, by rw [h.2]; simp⟩) (fun i H h => h)
    · cases ed'
theorem ji_range2 (hg : Gl X "range") (hm : X.mg "range" = none) (ha : JBs X P Wx [e, e2] Fs) (hs : starEach [e, e2] X.env = [(false, eval e X.env), (false, eval e2 X.env)] := by rfl) (hs2 : starEach [e2] X.env = [(false, eval e2 X.env)] := by rfl) :
    JI X P Wx tg (.Call (.Name "range" p) [e, e2] [] pos) (fRange asI2 Fs) := by
  obtain ⟨ts, ps, ks⟩ := ha
  refine ⟨_, pi_range2 hg hm ps hs hs2, fun z W H O Ms σ R rl q => ?_⟩
  refine ks z W H O Ms σ _ rl (q.bind.mono fun ds z1 W1 H1 O1 M1 rl1 st1 ⟨_, _, q1⟩ vs hvs => ?_)
  obtain ⟨xs, ed, kk⟩ := Post.lift rl1 q1
  match ds, ed with
  | [.int i, .int j], ed =>
    obtain ⟨v, w, _, _, rfl, hd1, hd2⟩ := bor2 hvs
    rw [(den_int_inv hd1).1, (den_int_inv hd2).1]
    have ed' : (if (-4611686018427387904 ≤ i ∧ i < 4611686018427387904) ∧ (-4611686018427387904 ≤ j ∧ j < 4611686018427387904) then some ((List.range (j - i).toNat).map fun (k : Nat) => D.int (i + (k : Int))) else none) = some xs := ed
    split at ed'
    · rename_i hc
      cases ed'
      refine ⟨i, j, rfl, ⟨hc.1.1, hc.1.2, hc.2.1, hc.2.2⟩, kk _ ?_⟩
      exact yields_ints (f := fun k => i + (k : Int)) (fun i H h => h) (fun i H x H' h => ⟨h.1, h.2⟩) (fun i H h => h)
    · cases ed'
theorem ji_range3 {e3 : Expr} (hg : Gl X "range") (hm : X.mg "range" = none) (ha : JBs X P Wx [e, e2, e3] Fs) (hs : starEach [e, e2, e3] X.env = (false, eval e X.env) :: starEach [e2, e3] X.env := by rfl) (hpl : (backTo pos (starEach [e2, e3] X.env)).any (·.1) = false := by rfl) :
    JI X P Wx tg (.Call (.Name "range" p) [e, e2, e3] [] pos) (fRange asI3 Fs) := by
  obtain ⟨ts, ps, ks⟩ := ha
  refine ⟨_, pi_range3 hg hm ps hs hpl, fun z W H O Ms σ R rl q => ?_⟩
  refine ks z W H O Ms σ _ rl (q.bind.mono fun ds z1 W1 H1 O1 M1 rl1 st1 ⟨_, _, q1⟩ vs hvs => ?_)
  obtain ⟨xs, ed, kk⟩ := Post.lift rl1 q1
  unfold asI3 at ed
  split at ed
  · rename_i i j _
    cases hvs with
    | cons h1 h2 =>
      cases h2 with
      | cons h2 h3 =>
        cases h3 with
        | cons h3 h4 =>
          cases h4
          obtain ⟨_, hd1, _⟩ := h1
          obtain ⟨_, hd2, _⟩ := h2
          obtain ⟨_, hd3, _⟩ := h3
          rw [(den_int_inv hd1).1, (den_int_inv hd2).1, (den_int_inv hd3).1]
          split at ed
          · rename_i hc
            cases ed
            refine ⟨i, j, -1, (i - j).toNat, rfl, RgC.neg hc.1.1 hc.1.2 hc.2.1 hc.2.2, kk _ ?_⟩
            exact yields_ints (f := fun k => i - (k : Int)) (fun i H h => h) (fun k H x H' h => ⟨h.1, by rw [h.2]; congr 1; omega⟩) (fun i H h => h)
          · cases ed
  · cases ed

/-! ### while -/
def whileN (Ta : M Bool) (B : M Fl) : Nat → M Fl
  | 0 => fun _ => .stk
  | n + 1 => bnd Ta fun b => if b then bnd B fun f => match f with
      | .nx => whileN Ta B n
      | .ct => whileN Ta B n
      | .bk => ret .nx
      | .rt d => ret (.rt d)
    else ret .nx
theorem js_while (n : Nat) (hp : PassesOwn (model X.prog X.w) X.A X.env X.xe) (hc : JT X P Wx c Ta) (hb : JSs X P Wx body B) : JS X P Wx (.While c body [] pos) (whileN Ta B n) := by
  obtain ⟨tc, pc, kc⟩ := hc
  obtain ⟨tb, pb, kb⟩ := hb
  refine ⟨_, ps_while hp pc pb, fun z W H O Ms σ Dn rl p => ?_⟩
  refine ⟨fun m σ' H' => ∃ z2 W2 O2 M2, Rel P W2 H' O2 M2 σ' z2 ∧ PostS P Wx Dn W2 H' O2 M2 (whileN Ta B m z2), ⟨n, z, W, O, Ms, rl, p⟩, ?_⟩
  rintro m σ' H' ⟨z2, W2, O2, M2, rl2, q2⟩
  cases m with
  | zero => exact q2.elim
  | succ m =>
    refine kc z2 W2 H' O2 M2 σ' _ rl2 (PostS.bind (σ := σ') q2 |>.mono fun b z3 W3 H3 O3 M3 rl3 st3 ⟨_, q3⟩ => ?_)
    unfold KT
    cases b with
    | false =>
      rw [if_neg (by decide)]
      exact q3 σ' W3 H3 O3 M3 rl3 .refl
    | true =>
      rw [if_pos rfl]
      refine ⟨fun σ4 H4 => ∃ z4 W4 O4 M4, Rel P W4 H4 O4 M4 σ4 z4 ∧ PostS P Wx Dn W4 H4 O4 M4 (whileN Ta B m z4), fun σ4 H4 h => ⟨m, Nat.lt_succ_self m, h⟩, ?_⟩
      refine kb z3 W3 H3 O3 M3 σ' _ rl3 ?_
      have q4 : PostS P Wx Dn W3 H3 O3 M3 (bnd B (fun f => match f with
        | .nx => whileN Ta B m
        | .ct => whileN Ta B m
        | .bk => ret .nx
        | .rt d => ret (.rt d)) z3) := q3
      unfold bnd at q4
      cases e2 : B z3 with
      | stk => rw [e2] at q4; exact q4
      | exc c fs z5 => rw [e2] at q4; exact q4
      | ok f z5 =>
        rw [e2] at q4
        cases f with
        | nx => exact fun σ5 W5 H5 O5 M5 rl5 st5 => ⟨z5, W5, O5, M5, rl5, PostS.later st5 q4⟩
        | ct => exact fun σ5 W5 H5 O5 M5 rl5 st5 => ⟨z5, W5, O5, M5, rl5, PostS.later st5 q4⟩
        | bk => exact q4
        | rt d => exact q4
end
end G

namespace G
open PySem L2
/-- no exception comes -/
def W0 : WX := fun _ _ _ _ => False
def nox {α : Type} (m : M α) : M α := fun z => match m z with
  | .ok a z' => .ok a z'
  | _ => .stk
/-- the slots of a comprehension's own names -/
def wipeE (e : List (Option D)) : List Nat → List (Option D)
  | [] => e
  | v :: vs => (wipeE e vs).set v none
/-- .. as they were -/
def backE (e e0 : List (Option D)) : List Nat → List (Option D)
  | [] => e
  | v :: vs => (backE e e0 vs).set v (e0[v]?.join)
def fixedAt (e : List (Option D)) (vs : List Nat) : Bool := vs.all fun v => match e[v]? with
  | some (some d) => notOwn d
  | _ => true
def compL (vs : List Nat) (T : Tg) (C : M Bool) (E : M D) : List D → List D → M (List D)
  | [], acc => ret acc
  | d :: ds, acc => bndT (fun z => T d { z with env := wipeE z.env vs }) <| bnd (nox C) fun b => if b then bnd (nox E) fun y => if acc.length < big then compL vs T C E ds (acc ++ [y]) else fun _ => .stk else compL vs T C E ds acc
def fComp (vs : List Nat) (Fi : M (List D)) (T : Tg) (C : M Bool) (E : M D) : M D := bnd Fi fun ds => fun z0 =>
  if fixedAt z0.env vs then
    match compL vs T C E ds [] z0 with
    | .ok acc z1 => .ok (.lst true acc) { z1 with env := backE z1.env z0.env vs }
    | _ => .stk
  else .stk
theorem wipe_len (σ : St) : ∀ vs : List Nat, (wipe σ vs).length = σ.length
  | [] => rfl
  | v :: vs => by unfold wipe; rw [List.length_set, wipe_len σ vs]
theorem wipeE_len (e : List (Option D)) : ∀ vs : List Nat, (wipeE e vs).length = e.length
  | [] => rfl
  | v :: vs => by unfold wipeE; rw [List.length_set, wipeE_len e vs]
section
variable {P : Par} {W : Wd} {H : Hp} {O Ms : List Addr} {σ : St} {z : Z}
theorem Rel.sub_env {O' : List Addr} {σ' : St} {e' : List (Option D)} (rl : Rel P W H O Ms σ z) (h : DenE P W H O' σ' e') (s : List.Sublist O' O) : Rel P W H O' Ms σ' { z with env := e' } :=
  ⟨rl.sub, h, rl.st, rl.nd.sublist (List.Sublist.append s (List.Sublist.refl _)), fun a ha => rl.off a ((List.mem_append.mp ha).elim (fun h => List.mem_append_left _ (s.subset h)) fun h => List.mem_append_right _ h)⟩
theorem DenE.wipe : ∀ (vs : List Nat) {e : List (Option D)} {σ : St} {O : List Addr}, DenE P W H O σ e → ∃ O', DenE P W H O' (wipe σ vs) (wipeE e vs) ∧ List.Sublist O' O
  | [], e, σ, O, h => ⟨O, h, List.Sublist.refl _⟩
  | v :: vs, e, σ, O, h => by
    obtain ⟨O1, h1, s1⟩ := DenE.wipe vs h
    obtain ⟨o1, o2, ⟨om, eo⟩, h2⟩ := h1.drop v none
    refine ⟨o1 ++ o2, h2, List.Sublist.trans ?_ s1⟩
    rw [eo]
    exact List.Sublist.append (List.Sublist.refl _) (List.sublist_append_right _ _)
theorem Stp.subO {Z : List Addr} {W W1 : Wd} {H H1 : Hp} {O O1 M M1 O2 : List Addr} (s : Stp Z W W1 H H1 O O1 M M1) (h : ∀ a ∈ O2, a ∈ O1) : Stp Z W W1 H H1 O O2 M M1 := ⟨s.le, s.keep, s.dom, s.fF, fun a ha => s.fO a (h a ha), s.fM⟩
/-- a fixed value in a slot -/
theorem DenE.at {e : List (Option D)} : ∀ {σ : St} {O : List Addr} {v : Nat} {d : D}, DenE P W H O σ e → e[v]? = some (some d) → notOwn d = true → ∃ x, σ[v]? = some (some x) ∧ Den P W H [] x d := by
  intro σ O v d h e1 no
  obtain ⟨x, o1, om, o2, eo, ev, hd, _⟩ := h.split e1
  have e0 := hd.notOwn no
  subst e0
  exact ⟨x, ev, hd⟩
/-- a slot of which nothing is known takes any value -/
theorem DenE.drop1 {e : List (Option D)} {σ : St} {O : List Addr} (v : Nat) (x : Option V) (h : DenE P W H O σ e) : ∃ O', DenE P W H O' (σ.set v x) (e.set v none) ∧ List.Sublist O' O := by
  obtain ⟨o1, o2, ⟨om, eo⟩, h2⟩ := h.drop v x
  refine ⟨o1 ++ o2, h2, ?_⟩
  rw [eo]
  exact List.Sublist.append (List.Sublist.refl _) (List.sublist_append_right _ _)
theorem DenE.set1 {e : List (Option D)} {σ : St} {O : List Addr} {v : Nat} {x : V} {d : D} (h : DenE P W H O σ e) (hi : v < e.length) (hd : Den P W H [] x d) : ∃ O', DenE P W H O' (σ.set v (some x)) (e.set v (some d)) ∧ List.Sublist O' O := by
  obtain ⟨o1, o2, ⟨om, eo⟩, h2⟩ := h.set hi hd
  refine ⟨o1 ++ ([] ++ o2), h2, ?_⟩
  rw [eo]
  exact List.Sublist.append (List.Sublist.refl _) (List.sublist_append_right _ _)
def backS (σ σ0 : St) : List Nat → St
  | [] => σ
  | v :: vs => (backS σ σ0 vs).set v (σ0[v]?.join)
theorem backS_len (σ σ0 : St) : ∀ vs : List Nat, (backS σ σ0 vs).length = σ.length
  | [] => rfl
  | v :: vs => by unfold backS; rw [List.length_set, backS_len σ σ0 vs]
theorem backE_len (e e0 : List (Option D)) : ∀ vs : List Nat, (backE e e0 vs).length = e.length
  | [] => rfl
  | v :: vs => by unfold backE; rw [List.length_set, backE_len e e0 vs]
theorem DenE.back {W0' : Wd} {H0 : Hp} {O0 : List Addr} {e0 : List (Option D)} {σ0 : St} (h0 : DenE P W0' H0 O0 σ0 e0) (le : W0'.le W) : ∀ (vs : List Nat) {e : List (Option D)} {σ : St} {O : List Addr}, fixedAt e0 vs = true → e.length = e0.length → DenE P W H O σ e →
    ∃ O', DenE P W H O' (backS σ σ0 vs) (backE e e0 vs) ∧ List.Sublist O' O
  | [], e, σ, O, _, _, h => ⟨O, h, List.Sublist.refl _⟩
  | v :: vs, e, σ, O, f, hl, h => by
    unfold fixedAt at f
    rw [List.all_cons, Bool.and_eq_true] at f
    obtain ⟨O1, h1, s1⟩ := DenE.back h0 le vs f.2 hl h
    unfold backS backE
    cases q : e0[v]? with
    | none =>
      obtain ⟨O2, h2, s2⟩ := h1.drop1 v (σ0[v]?.join)
      exact ⟨O2, h2, s2.trans s1⟩
    | some od =>
      cases od with
      | none =>
        obtain ⟨O2, h2, s2⟩ := h1.drop1 v (σ0[v]?.join)
        exact ⟨O2, h2, s2.trans s1⟩
      | some d =>
        have no : notOwn d = true := by have := f.1; rw [q] at this; exact this
        obtain ⟨x, ex, hd⟩ := h0.at q no
        have hv : v < (backE e e0 vs).length := by rw [backE_len, hl]; exact (List.getElem?_eq_some_iff.mp q).1
        rw [ex]
        obtain ⟨O2, h2, s2⟩ := h1.set1 hv (hd.mono le fun _ h => by simp at h)
        exact ⟨O2, h2, s2.trans s1⟩
theorem backS_wipe (σ : St) : ∀ vs : List Nat, backS (wipe σ vs) σ vs = σ := by
  have gen : ∀ (vs : List Nat) (τ : St), τ.length = σ.length → (∀ i, i ∉ vs → τ[i]? = σ[i]?) → backS τ σ vs = σ := by
    intro vs
    induction vs with
    | nil => intro τ hl h; exact List.ext_getElem? fun i => h i (by simp)
    | cons v vs ih =>
      intro τ hl h
      unfold backS
      apply List.ext_getElem?
      intro i
      have hb : ∀ (vs : List Nat) (i : Nat), i ∉ vs → (backS τ σ vs)[i]? = τ[i]? := by
        intro vs
        induction vs with
        | nil => intro i _; rfl
        | cons w vs ih2 =>
          intro i hi
          unfold backS
          rw [List.getElem?_set_ne (by rintro rfl; exact hi (by simp)), ih2 i fun z => hi (by simp [z])]
      have hin : ∀ (vs : List Nat) (i : Nat), i ∈ vs → (backS τ σ vs)[i]? = σ[i]? := by
        intro vs
        induction vs with
        | nil => intro i hi; simp at hi
        | cons w vs ih2 =>
          intro i hi
          unfold backS
          by_cases hw : w = i
          · subst hw
            by_cases hlt : w < (backS τ σ vs).length
            · rw [List.getElem?_set_self hlt]
              rw [backS_len, hl] at hlt
              rw [List.getElem?_eq_getElem hlt]
              rfl
            · rw [List.getElem?_eq_none (by simpa using hlt)]
              rw [backS_len, hl] at hlt
              rw [List.getElem?_eq_none (by omega)]
          · rw [List.getElem?_set_ne hw]
            rcases List.mem_cons.mp hi with e | hi
            · exact absurd e.symm hw
            · exact ih2 i hi
      have := hin (v :: vs) i
      unfold backS at this
      by_cases hm : i ∈ v :: vs
      · exact this hm
      · have h1 := hb (v :: vs) i hm
        unfold backS at h1
        rw [h1]; exact h i hm
  intro vs
  refine gen vs _ (wipe_len σ vs) fun i hi => ?_
  induction vs with
  | nil => rfl
  | cons v vs ih =>
    unfold wipe
    rw [List.getElem?_set_ne (by rintro rfl; exact hi (by simp)), ih fun z => hi (by simp [z])]
end
end G

namespace G
open PySem L2
section
variable {X : Cx} {P : Par} {Wx : WX} {e c tg iter elt : Expr} {ifs : List Expr} {pos : Pos} {F E : M D} {C : M Bool} {ns : List Nat} {T : Tg} {Fi : M (List D)}
/-! ### one reading for all contexts -/
def teE (P : Par) (Wx : WX) (F : M D) : TE := fun σ H Q => ∃ z W O Ms, Rel P W H O Ms σ z ∧ Post P Wx σ W H O Ms (KE P H Q) (F z)
def teT (P : Par) (Wx : WX) (F : M Bool) : TT := fun σ H Q => ∃ z W O Ms, Rel P W H O Ms σ z ∧ Post P Wx σ W H O Ms (KT Q) (F z)
def teG (P : Par) (ns : List Nat) (T : Tg) : TG := fun v σ H Q => ∃ d z W O Ms, Rel P W H O Ms σ z ∧ Den P W H [] v d ∧ PostU P σ ns Q W H O Ms (T d z)
theorem JE.pe (h : JE X P Wx e F) : PE X e (teE P Wx F) := by
  obtain ⟨te, p, k⟩ := h
  exact ⟨fun pins s σ H Q I ⟨z, W, O, Ms, rl, q⟩ => p.run pins s σ H Q I (k z W H O Ms σ Q rl q)⟩
theorem JT.pt (h : JT X P Wx e C) : PT X e (teT P Wx C) := by
  obtain ⟨te, p, k⟩ := h
  exact ⟨fun pins s σ H Q I ⟨z, W, O, Ms, rl, q⟩ => p.run pins s σ H Q I (k z W H O Ms σ Q rl q)⟩
theorem JG.pg (h : JG X P e ns T) : PG X e (teG P ns T) := by
  obtain ⟨g, p, k⟩ := h
  exact ⟨fun pins s σ H v u Q I r ⟨d, z, W, O, Ms, rl, hd, q⟩ => p.run pins s σ H v u Q I r (k d v z W H O Ms σ Q rl hd q)⟩
/-- a clause's tests: none or one -/
def JTs (X : Cx) (P : Par) (Wx : WX) (ifs : List Expr) (C : M Bool) : Prop := PTs X ifs (teT P Wx C)
theorem jts_nil : JTs X P Wx [] (ret true) := ⟨fun pins s σ H Q I ⟨z, W, O, Ms, rl, q⟩ => pts_nil.run pins s σ H Q I (q W H O Ms rl .refl)⟩
theorem jts_one (h : JT X P Wx c C) : JTs X P Wx [c] C := pts_one h.pt

theorem Post.nox {α : Type} {K : KK α} {m : M α} {z : Z} {σ : St} {W : Wd} {H : Hp} {O Ms : List Addr} (h : Post P Wx σ W H O Ms K (nox m z)) : Post P W0 σ W H O Ms K (m z) := by
  unfold G.nox at h
  cases e : m z with
  | ok a z1 => rw [e] at h; exact h
  | exc c fs z1 => rw [e] at h; exact h.elim
  | stk => rw [e] at h; exact h
theorem wipe_eq {vs : List Nat} {σ τ : St} (hl : τ.length = σ.length) (h : ∀ j, j ∉ vs → τ[j]? = σ[j]?) : wipe τ vs = wipe σ vs := by
  have at_ : ∀ (σ : St) (vs : List Nat) (j : Nat), (wipe σ vs)[j]? = if j ∈ vs then (if j < σ.length then some none else none) else σ[j]? := by
    intro σ vs
    induction vs with
    | nil => intro j; simp [wipe]
    | cons v vs ih =>
      intro j
      unfold wipe
      by_cases hv : v = j
      · subst hv
        simp only [List.mem_cons, true_or, if_true]
        by_cases hlt : v < σ.length
        · rw [if_pos hlt, List.getElem?_set_self (by rw [wipe_len]; exact hlt)]
        · rw [if_neg hlt, List.getElem?_eq_none (by simp [wipe_len]; omega)]
      · rw [List.getElem?_set_ne hv, ih j]
        have : (j ∈ v :: vs) ↔ j ∈ vs := by simp [Ne.symm hv]
        simp only [this]
  apply List.ext_getElem?
  intro j
  rw [at_, at_, hl]
  by_cases hj : j ∈ vs
  · simp [hj]
  · simp [hj, h j hj]
theorem wipe_wipe (σ : St) (vs : List Nat) : wipe (wipe σ vs) vs = wipe σ vs := by
  refine wipe_eq (wipe_len σ vs) fun j hj => ?_
  induction vs with
  | nil => rfl
  | cons v vs ih =>
    unfold wipe
    rw [List.getElem?_set_ne (by rintro rfl; exact hj (by simp)), ih fun z => hj (by simp [z])]
/-- the list that grows, at the address d -/
structure Grow (P : Par) (H0 : Hp) (W : Wd) (H : Hp) (O Ms : List Addr) (d : Addr) (acc : List D) (vs : List V) (fp : List Addr) : Prop where
  at_ : H d = some (.lst vs)
  den : DenL P W H fp vs acc
  own : Own H0 W O Ms (d :: fp)
theorem Grow.stands {H0 : Hp} {W : Wd} {H : Hp} {O Ms : List Addr} {d : Addr} {acc : List D} {vs : List V} {fp : List Addr} (g : Grow P H0 W H O Ms d acc vs fp) : ∀ a ∈ d :: fp, H a ≠ none := fun a ha => (List.mem_cons.mp ha).elim (fun e => by rw [e, g.at_]; simp) fun h => g.den.stands h
theorem Grow.step {H0 : Hp} {W W1 : Wd} {H H1 : Hp} {O O1 Ms M1 : List Addr} {d : Addr} {acc : List D} {vs : List V} {fp : List Addr} (g : Grow P H0 W H O Ms d acc vs fp) (s : Stp Ms W W1 H H1 O O1 Ms M1) : Grow P H0 W1 H1 O1 M1 d acc vs fp :=
  ⟨s.keep d _ g.at_ (g.own.oM d (by simp)), g.den.keepE s fun a ha => g.own.oM a (by simp [ha]), g.own.step g.stands s⟩
theorem Grow.subO {H0 : Hp} {W : Wd} {H : Hp} {O O1 Ms : List Addr} {d : Addr} {acc : List D} {vs : List V} {fp : List Addr} (g : Grow P H0 W H O Ms d acc vs fp) (s : ∀ a ∈ O1, a ∈ O) : Grow P H0 W H O1 Ms d acc vs fp :=
  ⟨g.at_, g.den, ⟨g.own.nd, g.own.new, g.own.oF, fun a ha h => g.own.oO a ha (s a h), g.own.oM⟩⟩
/-- one item more -/
theorem Grow.app {H0 : Hp} {W : Wd} {H : Hp} {O Ms fp1 : List Addr} {d : Addr} {acc : List D} {v : V} {y : D} {σ : St} {z : Z} {vs : List V} {fp : List Addr} (rl : Rel P W H O Ms σ z) (g : Grow P H0 W H O Ms d acc vs fp) (hy : Den P W H fp1 v y) (ho : Own H0 W O Ms fp1)
    (apart : ∀ b ∈ fp1, b ∉ d :: fp) :
    Rel P W (upd H d (.lst (vs ++ [v]))) O Ms σ z ∧ Stp [d] W W H (upd H d (.lst (vs ++ [v]))) O O Ms Ms ∧ Grow P H0 W (upd H d (.lst (vs ++ [v]))) O Ms d (acc ++ [y]) (vs ++ [v]) (fp ++ fp1) := by
  obtain ⟨h1, h2, h3⟩ := g
  have k : ∀ b o, H b = some o → b ≠ d → (upd H d (.lst (vs ++ [v]))) b = some o := fun b o e hb => by rw [upd_ne hb]; exact e
  have dO : d ∉ O := h3.oO d (by simp)
  have dM : d ∉ Ms := h3.oM d (by simp)
  have dF : W.F d = none := h3.oF d (by simp)
  have dfp : d ∉ fp := (List.nodup_cons.mp h3.nd).1
  refine ⟨⟨fun a o e => k a o (rl.sub a o e) (fun q => by rw [q, dF] at e; cases e), rl.env.mono (Wd.le.refl W) fun b hb o e => k b o e fun q => dO (q ▸ hb), rl.st.mono (Wd.le.refl W) fun b hb o e => k b o e fun q => dM (q ▸ hb), rl.nd, rl.off⟩,
    ⟨Wd.le.refl W, fun b o e hb => k b o e (by simpa using hb), fun b e => ?_, fun _ e => .inl e, fun _ h => .inl h, fun _ h => .inl h⟩,
    ⟨upd_same, ?_, ⟨?_, ?_, ?_, ?_, ?_⟩⟩⟩
  · by_cases hb : b = d
    · rw [hb, upd_same] at e; cases e
    · rw [upd_ne hb] at e; exact e
  · refine DenL.append (h2.mono (Wd.le.refl W) fun b hb o e => k b o e fun q => dfp (q ▸ hb)) (DenL.one (hy.mono (Wd.le.refl W) fun b hb o e => k b o e fun q => apart b hb (by simp [q])))
  · refine List.nodup_cons.mpr ⟨fun hm => (List.mem_append.mp hm).elim dfp fun h => apart d h (by simp), List.nodup_append.mpr ⟨(List.nodup_cons.mp h3.nd).2, ho.nd, fun a ha b hb q => by subst q; exact apart a hb (by simp [ha])⟩⟩
  · exact fun a ha => (List.mem_cons.mp ha).elim (fun e => h3.new a (by simp [e])) fun h => (List.mem_append.mp h).elim (fun h => h3.new a (by simp [h])) (ho.new a)
  · exact fun a ha => (List.mem_cons.mp ha).elim (fun e => h3.oF a (by simp [e])) fun h => (List.mem_append.mp h).elim (fun h => h3.oF a (by simp [h])) (ho.oF a)
  · exact fun a ha => (List.mem_cons.mp ha).elim (fun e => h3.oO a (by simp [e])) fun h => (List.mem_append.mp h).elim (fun h => h3.oO a (by simp [h])) (ho.oO a)
  · exact fun a ha => (List.mem_cons.mp ha).elim (fun e => h3.oM a (by simp [e])) fun h => (List.mem_append.mp h).elim (fun h => h3.oM a (by simp [h])) (ho.oM a)
theorem backE_wipe (e e0 : List (Option D)) : ∀ vs : List Nat, backE (wipeE e vs) e0 vs = backE e e0 vs := by
  have at_ : ∀ (e : List (Option D)) (vs : List Nat) (j : Nat), (backE e e0 vs)[j]? = if j ∈ vs then (if j < e.length then some (e0[j]?.join) else none) else e[j]? := by
    intro e vs
    induction vs with
    | nil => intro j; simp [backE]
    | cons v vs ih =>
      intro j
      unfold backE
      by_cases hv : v = j
      · subst hv
        simp only [List.mem_cons, true_or, if_true]
        by_cases hlt : v < e.length
        · rw [if_pos hlt, List.getElem?_set_self (by rw [backE_len]; exact hlt)]
        · rw [if_neg hlt, List.getElem?_eq_none (by simp [backE_len]; omega)]
      · rw [List.getElem?_set_ne hv, ih j]
        have : (j ∈ v :: vs) ↔ j ∈ vs := by simp [Ne.symm hv]
        simp only [this]
  have wt : ∀ (e : List (Option D)) (vs : List Nat) (j : Nat), j ∉ vs → (wipeE e vs)[j]? = e[j]? := by
    intro e vs
    induction vs with
    | nil => intro j _; rfl
    | cons v vs ih =>
      intro j hj
      unfold wipeE
      rw [List.getElem?_set_ne (by rintro rfl; exact hj (by simp)), ih j fun z => hj (by simp [z])]
  intro vs
  apply List.ext_getElem?
  intro j
  rw [at_, at_, wipeE_len]
  by_cases hj : j ∈ vs
  · simp [hj]
  · simp only [hj, if_false]; exact wt e vs j hj

/-- a comprehension's reading -/
theorem lc_run {wi : TI} {vs : List Nat} (hn : ∀ v ∈ ns, v ∈ vs) (ki : ∀ z W H O Ms σ R, Rel P W H O Ms σ z → Post P Wx σ W H O Ms (fun ds z1 W1 H1 O1 M1 => ∀ J, Yields P W1 J ds → R J H1) (Fi z) → wi σ H R) :
    ∀ z W H O Ms σ Q, Rel P W H O Ms σ z → Post P Wx σ W H O Ms (KE P H Q) (fComp vs Fi T C E z) → tLc wi (teG P ns T) (teT P W0 C) (teE P W0 E) vs σ H Q := by
  intro z W H O Ms σ Q rl p
  refine ki z W H O Ms σ _ rl (p.bind0.mono fun ds z0 Wa Ha Oa Ma rla sta p0 J hJ d hd => ?_)
  have hσ0 : σ.length = z0.env.length := rla.env.len
  split at p0
  · rename_i fx
    have p1 : ∃ acc z1, compL vs T C E ds [] z0 = .ok acc z1 ∧ Post P Wx σ W H O Ms (KE P H Q) (R.ok (D.lst true acc) { z1 with env := backE z1.env z0.env vs }) := by
      split at p0
      · rename_i acc z1 e; exact ⟨acc, z1, e, p0⟩
      · exact p0.elim
    clear p0
    obtain ⟨rl0, st0⟩ := rla.new hd (.lst [])
    let Inv2 : Nat → Hp → Prop := fun i H' => i ≤ ds.length ∧ ∃ z2 W2 O2 M2 acc2 gv gf, Rel P W2 H' O2 M2 (wipe σ vs) { z2 with env := wipeE z2.env vs } ∧ Wa.le W2 ∧ Grow P H W2 H' O2 M2 d acc2 gv gf ∧ Stp Ms W W2 H H' O O2 Ms M2 ∧
      ∃ acc z1, compL vs T C E (ds.drop i) acc2 z2 = .ok acc z1 ∧ Post P Wx σ W H O Ms (KE P H Q) (R.ok (D.lst true acc) { z1 with env := backE z1.env z0.env vs })
    refine ⟨fun i m H' => m = ds.length - i ∧ Inv2 i H', ⟨ds.length, by simp, Nat.zero_le _, ?_⟩, ?_⟩
    · obtain ⟨O', he, hsub⟩ := DenE.wipe vs rl0.env
      have one : ∀ {q : Addr → Prop}, q d → ∀ a ∈ d :: [], q a := fun h a ha => by rw [List.mem_singleton.mp ha]; exact h
      exact ⟨z0, Wa, O', Ma, [], [], [], rl0.sub_env he hsub, Wd.le.refl _, ⟨upd_same, DenL.nil, ⟨by simp, one (sta.dom d hd), one (rla.freeF hd), one fun h => rla.ownO hd (hsub.subset h), one (rla.ownM hd)⟩⟩,
        (sta.transE st0).subO fun a h => hsub.subset h, p1⟩
    rintro i m H' ⟨rfl, hil, z2, W2, O2, M2, acc2, gv, gf, rl2, le2, g2, st2, acc, z1, e1, pf⟩
    obtain ⟨y1, y2⟩ := hJ W2 H' O2 M2 (wipe σ vs) _ rl2 le2 i
    by_cases hlt : i < ds.length
    · obtain ⟨go, yl⟩ := y1 hlt
      refine .inr ⟨go, Inv2 (i + 1), fun H3 h => ⟨ds.length - (i + 1), by have := h.1; omega, rfl, h⟩, fun x H3 hy => ?_⟩
      obtain ⟨W3, d0, ed, rl3, st3, hx⟩ := yl x H3 hy
      rw [drop_get ed] at e1
      have e1' : (match T d0 { z2 with env := wipeE z2.env vs } with
        | some z' => bnd (nox C) (fun b => if b then bnd (nox E) fun y => if acc2.length < big then compL vs T C E (ds.drop (i + 1)) (acc2 ++ [y]) else fun _ => .stk else compL vs T C E (ds.drop (i + 1)) acc2) z'
        | none => .stk) = R.ok acc z1 := e1
      clear e1
      have stO3 : Stp Ms W W3 H H3 O O2 Ms M2 := st2.transE st3
      have g3 := g2.step st3
      refine ⟨d0, { z2 with env := wipeE z2.env vs }, W3, O2, M2, rl3, hx, ?_⟩
      cases e2 : T d0 { z2 with env := wipeE z2.env vs } with
      | none => rw [e2] at e1'; cases e1'
      | some z3 =>
        rw [e2] at e1'
        intro σ4 W4 H4 O4 M4 rl4 st4 tc
        have hw : wipe σ4 vs = wipe σ vs := by
          have := wipe_eq (vs := vs) tc.1 fun j hj => tc.2 j fun z => hj (hn j z)
          rw [this, wipe_wipe]
        refine ⟨hw, z3, W4, O4, M4, rl4, ?_⟩
        have stO4 : Stp Ms W W4 H H4 O O4 Ms M4 := stO3.transE st4
        have le4 : Wa.le W4 := le2.trans (st3.le.trans st4.le)
        have g4 := g3.step st4
        have e3 : bnd (nox C) (fun b => if b then bnd (nox E) fun y => if acc2.length < big then compL vs T C E (ds.drop (i + 1)) (acc2 ++ [y]) else fun _ => .stk else compL vs T C E (ds.drop (i + 1)) acc2) z3 = R.ok acc z1 := e1'
        -- what is left behind a turn
        have again : ∀ {z5 : Z} {W5 : Wd} {H5 : Hp} {O5 M5 : List Addr} {acc5 : List D} {gv5 : List V} {gf5 : List Addr}, Rel P W5 H5 O5 M5 σ4 z5 → Wa.le W5 → Grow P H W5 H5 O5 M5 d acc5 gv5 gf5 → Stp Ms W W5 H H5 O O5 Ms M5 →
            compL vs T C E (ds.drop (i + 1)) acc5 z5 = .ok acc z1 → Inv2 (i + 1) H5 := by
          intro z5 W5 H5 O5 M5 acc5 gv5 gf5 rl5 le5 g5 st5 e5
          obtain ⟨O', he, hsub⟩ := DenE.wipe vs rl5.env
          rw [hw] at he
          exact ⟨hlt, z5, W5, O', M5, acc5, gv5, gf5, ⟨rl5.sub, he, rl5.st, rl5.nd.sublist (List.Sublist.append hsub (List.Sublist.refl _)), fun a ha => rl5.off a ((List.mem_append.mp ha).elim (fun h => List.mem_append_left _ (hsub.subset h)) fun h => List.mem_append_right _ h)⟩,
            le5, g5.subO fun a h => hsub.subset h, st5.subO fun a h => hsub.subset h, acc, z1, e5, pf⟩
        unfold bnd at e3
        cases eC : nox C z3 with
        | stk => rw [eC] at e3; cases e3
        | exc c fs z4 => rw [eC] at e3; cases e3
        | ok b z4 =>
          rw [eC] at e3
          have eC' : C z3 = .ok b z4 := by
            unfold G.nox at eC
            split at eC
            · cases eC; assumption
            · cases eC
          rw [eC']
          intro W5 H5 O5 M5 rl5 st5
          have g5 := g4.step st5
          have stO5 := stO4.transE st5
          have le5 := le4.trans st5.le
          cases b with
          | false =>
            dsimp only [KT]
            rw [if_neg (by decide)]
            exact again rl5 le5 g5 stO5 e3
          | true =>
            dsimp only [KT]
            rw [if_pos rfl]
            refine ⟨z4, W5, O5, M5, rl5, ?_⟩
            have e4 : bnd (nox E) (fun y => if acc2.length < big then compL vs T C E (ds.drop (i + 1)) (acc2 ++ [y]) else fun _ => .stk) z4 = R.ok acc z1 := e3
            unfold bnd at e4
            cases eE : nox E z4 with
            | stk => rw [eE] at e4; cases e4
            | exc c fs z5 => rw [eE] at e4; cases e4
            | ok y z5 =>
              rw [eE] at e4
              have eE' : E z4 = .ok y z5 := by
                unfold G.nox at eE
                split at eE
                · cases eE; assumption
                · cases eE
              rw [eE']
              intro W6 H6 O6 M6 rl6 st6 v fp1 hy ho
              have g6 := g5.step st6
              have e5 : (if acc2.length < big then compL vs T C E (ds.drop (i + 1)) (acc2 ++ [y]) else fun _ => .stk) z5 = R.ok acc z1 := e4
              by_cases hz : acc2.length < big
              · rw [if_pos hz] at e5
                have stO6 := stO5.transE st6
                have apart : ∀ b ∈ fp1, b ∉ d :: gf := fun b hb hm => g5.stands b hm (ho.new b hb)
                obtain ⟨rl7, st7, g7⟩ := Grow.app rl6 g6 hy (ho.old stO5.dom) apart
                refine ⟨gv, g6.at_, by rw [g6.den.len, big_eq]; exact hz, ?_⟩
                refine again rl7 (le5.trans st6.le) g7 ?_ e5
                refine stO6.trans st7 fun b hb => ?_
                rw [List.mem_singleton.mp hb]
                exact .inr (g6.own.new d (by simp))
              · rw [if_neg hz] at e5; cases e5
    · have hle : ds.length ≤ i := by omega
      refine .inl ⟨y2 hle, ?_⟩
      rw [List.drop_eq_nil_of_le hle] at e1
      have e1' : R.ok acc2 z2 = R.ok acc z1 := e1
      injection e1' with q1 q2
      subst q1 q2
      have hl : (wipeE z2.env vs).length = z0.env.length := by
        have h1 := rl2.env.len
        have h2 : (wipe σ vs).length = (wipeE z2.env vs).length := h1
        rw [← h2, wipe_len, hσ0]
      obtain ⟨O', he, hsub⟩ := DenE.back rla.env le2 vs fx hl rl2.env
      rw [backS_wipe, backE_wipe] at he
      refine pf W2 H' O' M2 ⟨rl2.sub, he, rl2.st, rl2.nd.sublist (List.Sublist.append hsub (List.Sublist.refl _)), fun a ha => rl2.off a ((List.mem_append.mp ha).elim (fun h => List.mem_append_left _ (hsub.subset h)) fun h => List.mem_append_right _ h)⟩ (st2.subO fun a h => hsub.subset h) (.ref d) (d :: gf) (den_lt g2.at_ g2.den) ?_
      have ow := g2.own
      exact ⟨ow.nd, ow.new, ow.oF, fun a ha h => ow.oO a ha (hsub.subset h), ow.oM⟩
  · exact p0.elim
variable {scope : Scope} {own : List (Str × Nat)}
theorem j_lc (hc : X.calm = true) (hN : X.N.Nodup) (hi : JI X P Wx tg iter Fi) (ok : blkC X.N X.env.scope scope own = true) (hn : ∀ v ∈ ns, v ∈ own.map (·.2))
    (hg : ∀ (s : Shared) (H : Hp) (Ca : Addr) (cl : List (Str × Addr)) (fp : List Addr), JG (X.blk s H scope (compEnvC scope cl Ca X.env) fp) P tg ns T) (ht : ∀ (s : Shared) (H : Hp) (Ca : Addr) (cl : List (Str × Addr)) (fp : List Addr), JTs (X.blk s H scope (compEnvC scope cl Ca X.env) fp) P W0 ifs C)
    (he : ∀ (s : Shared) (H : Hp) (Ca : Addr) (cl : List (Str × Addr)) (fp : List Addr), JE (X.blk s H scope (compEnvC scope cl Ca X.env) fp) P W0 elt E) (hs : ∀ x, foldedSetIterable iter X.env x = pure x := by intro _; rfl) :
    JE X P Wx (.ListComp elt [⟨tg, iter, ifs, 0⟩] scope pos) (fComp (own.map (·.2)) Fi T C E) := by
  obtain ⟨wi, pi, ki⟩ := hi
  exact ⟨_, pe_lc hc hN pi (blkOk_by ok) (fun s H Ca cl fp => (hg s H Ca cl fp).pg) ht (fun s H Ca cl fp => (he s H Ca cl fp).pe) hs, lc_run hn ki⟩
/-- name = [..] -/
theorem js_setLc {i : Nat} {y : Str} {py : Pos} {spos : Pos} (hc : X.calm = true) (hN : X.N.Nodup) (hy : X.N[i]? = some y) (hyl : X.env.scope.names.lookup y = some .local)
    (hsw : swapsWith (.ListComp elt [⟨tg, iter, ifs, 0⟩] scope pos) (some (.Name y py)) spos.line X.env = pure true) (hi : JI X P Wx tg iter Fi) (ok : blkC X.N X.env.scope scope own = true) (hn : ∀ v ∈ ns, v ∈ own.map (·.2))
    (hg : ∀ (s : Shared) (H : Hp) (Ca : Addr) (cl : List (Str × Addr)) (fp : List Addr), JG (X.blk s H scope (compEnvC scope cl Ca X.env) fp) P tg ns T) (ht : ∀ (s : Shared) (H : Hp) (Ca : Addr) (cl : List (Str × Addr)) (fp : List Addr), JTs (X.blk s H scope (compEnvC scope cl Ca X.env) fp) P W0 ifs C)
    (he : ∀ (s : Shared) (H : Hp) (Ca : Addr) (cl : List (Str × Addr)) (fp : List Addr), JE (X.blk s H scope (compEnvC scope cl Ca X.env) fp) P W0 elt E) (hs : ∀ x, foldedSetIterable iter X.env x = pure x := by intro _; rfl) :
    JS X P Wx (.Assign [.Name y py] (.ListComp elt [⟨tg, iter, ifs, 0⟩] scope pos) spos) (fSet i (fComp (own.map (·.2)) Fi T C E)) := by
  obtain ⟨wi, pi, ki⟩ := hi
  refine ⟨_, ps_setLc hc hN hy hyl hsw pi (blkOk_by ok) (fun s H Ca cl fp => (hg s H Ca cl fp).pg) ht (fun s H Ca cl fp => (he s H Ca cl fp).pe) hs, fun z W H O Ms σ Dn rl p => ?_⟩
  refine lc_run hn ki z W H O Ms σ _ rl (p.bind.mono fun d z1 W1 H1 O1 M1 rl1 st1 ⟨q, _⟩ v fp hd ho => ?_)
  unfold bnd setE at q
  by_cases hl : i < z1.env.length
  · rw [if_pos hl] at q
    obtain ⟨O', rl2, hO⟩ := rl1.set hl hd ho
    exact q _ W1 H1 O' M1 rl2 ⟨st1.le, st1.es.keep, st1.dom, st1.fF, fun a ha => (hO a ha).elim (fun h => st1.fO a h) fun h => .inr (ho.new a h), st1.fM⟩
  · rw [if_neg hl] at q; exact q.elim
end
end G

namespace G
open PySem L2
inductive RF where
  | ok (d : D) (s : List Ob)
  | exc (c : String) (fs : List D) (s : List Ob)
  | stk
abbrev Fn := List D → List Ob → RF
def PostF (P : Par) (W : Wd) (H : Hp) (M : List Addr) (Q : VK) (E : XK) : RF → Prop
  | .ok d s => ∀ v W' H' M' fp, RelR P W' H' fp M' v d s → Stp M W W' H H' [] fp M M' → Q v H'
  | .exc c fs s => ∀ cls dx W' H' M', RelR P W' H' [] M' .non .non s → Stp M W W' H H' [] [] M M' → ExcR P W' c fs cls dx H' → E cls dx H'
  | .stk => False
/-- what a def promises whose worth is f -/
def spFn (P : Par) (n : Nat) (f : Fn) : Sp := fun vs H Q E => ∃ ds s W M, ds.length = n ∧ DenL P W H [] vs ds ∧ (∀ a o, W.F a = some o → H a = some o) ∧ DenS P W H M W.oas s ∧ M.Nodup ∧ (∀ a ∈ M, W.F a = none) ∧ PostF P W H M Q E (f ds s)
def endF : R Fl → RF
  | .ok (.rt d) z => .ok d z.st
  | .ok .nx z => .ok .non z.st
  | .exc c fs z => .exc c fs z.st
  | _ => .stk
def fnOf (np n : Nat) (body : M Fl) : Fn := fun ds s => if ds.length = np then endF (body ⟨ds.map some ++ List.replicate (n - np) none, s⟩) else .stk

section
variable {P : Par} {Pg : Program} {w : World} {mg : Str → Option Value} {base : Heap} {k : Nat} {f : Addr} {fd : FuncData} {x qual : Str} {st : Stmt} {N ps : List Str} {body : M Fl}
theorem denE_none {W : Wd} {H : Hp} : ∀ n : Nat, DenE P W H [] (List.replicate n none) (List.replicate n none)
  | 0 => rfl
  | n + 1 => by
    show DenE P W H [] (none :: List.replicate n none) (none :: List.replicate n none)
    exact denE_none n
theorem denE_start {W : Wd} {H : Hp} : ∀ {ds : List D} {vs : List V} (n : Nat), DenL P W H [] vs ds → DenE P W H [] (vs.map some ++ List.replicate n none) (ds.map some ++ List.replicate n none)
  | [], vs, n, h => by rw [denL_nil] at h; rw [h.1]; exact denE_none n
  | d :: ds, vs, n, h => by
    rw [denL_cons] at h
    obtain ⟨v, vs', fp1, fp2, e1, e2, h1, h2⟩ := h
    obtain ⟨q1, q2⟩ := List.append_eq_nil_iff.mp e2.symm
    subst e1 q1 q2
    exact ⟨v, [], [], rfl, rfl, h1, denE_start n h2⟩
/-- THE RULE: a def whose body's worth is known -/
theorem fn_ok (F : Fun P.K x qual st f fd) (S : FnScope N ps (defScope st))
    (h : ∀ (cdv : Value) (A : Around) (outer : List Env) (s : Shared) (H : Hp) (E : XK), Room k (A.deeper (PyProof.Rows.envOfC qual (defScope st) s.heap.objs.size f cdv)) →
      JSs (cxOf (L2.CX Pg w) Pg w P.K mg base N qual (defScope st) f cdv A outer s H E) P (fun cls d _ H => E cls d H) (defBody st) body) :
    FnOk Pg w P.K mg base (L2.CX Pg w) (k + 1) f fd ps (spFn P ps.length (fnOf ps.length N.length body)) := by
  have hlen : ∀ vs H Q E, spFn P ps.length (fnOf ps.length N.length body) vs H Q E → vs.length = ps.length := fun vs H Q E ⟨ds, s, W, M, hl, hd, _⟩ => hd.len.trans hl
  refine F.okX S hlen fun cdv A outer s H vs Q E hr hsp => ?_
  obtain ⟨ds, ob, W, M, hl, hd, hsub, hst, hnd, hoff, pf⟩ := hsp
  obtain ⟨t, p, kk⟩ := h cdv A outer s H E hr
  refine ⟨t, p, ?_⟩
  unfold fnOf at pf
  rw [if_pos hl] at pf
  have hvl : vs.length = ps.length := hd.len.trans hl
  have e0 : L2.start N vs = vs.map some ++ List.replicate (N.length - ps.length) none := by unfold L2.start; rw [hvl]
  rw [e0]
  have rl : Rel P W H [] M (vs.map some ++ List.replicate (N.length - ps.length) none) ⟨ds.map some ++ List.replicate (N.length - ps.length) none, ob⟩ :=
    ⟨hsub, denE_start _ hd, hst, by simpa using hnd, fun a ha => hoff a (by simpa using ha)⟩
  refine kk _ W H [] M _ _ rl ?_
  cases e : body ⟨ds.map some ++ List.replicate (N.length - ps.length) none, ob⟩ with
  | stk => rw [e] at pf; exact pf
  | exc c fs z =>
    rw [e] at pf
    intro cls dx σ' W' H' O' M' rl' st' he
    refine pf cls dx W' H' M' ⟨rl'.sub, den_non, rl'.st, ?_, fun a ha => rl'.off a (List.mem_append_right _ (by simpa using ha))⟩ ?_ he
    · rw [List.nil_append]; exact (List.nodup_append.mp rl'.nd).2.1
    · rw [List.append_nil] at st'
      exact st'.subO (by simp)
  | ok fl z =>
    rw [e] at pf
    cases fl with
    | bk => exact pf.elim
    | ct => exact pf.elim
    | rt d =>
      intro v W' H' M' fp r st'
      rw [List.append_nil] at st'
      exact pf v W' H' M' fp r st'
    | nx =>
      intro σ' W' H' O' M' rl' st'
      rw [List.append_nil] at st'
      refine pf .non W' H' M' [] ⟨rl'.sub, den_non, rl'.st, ?_, fun a ha => rl'.off a (List.mem_append_right _ (by simpa using ha))⟩ (st'.subO (by simp))
      rw [List.nil_append]; exact (List.nodup_append.mp rl'.nd).2.1
end

/-! ### calls -/
def fCall (f : Fn) (Fs : M (List D)) : M D := bnd Fs fun ds z => match f (ds.map frz) z.st with
  | .ok d s => .ok d { z with st := s }
  | .exc c fs s => .exc c fs { z with st := s }
  | .stk => .stk
/-- a def of the text with its worth -/
structure FnAt (X : Cx) (P : Par) (x : Str) (k n : Nat) (f : Fn) : Prop where
  ex : ∃ (fa : Addr) (fd : FuncData) (ps : List Str), FnOk X.prog X.w X.K X.mg X.base (L2.CX X.prog X.w) k fa fd ps (spFn P n f) ∧ X.mg x = some (.ref fa) ∧ PySem.W.keepIn X.K (.ref fa) = true ∧ Binds X.K fd ps []
section
variable {X : Cx} {P : Par} {Wx : WX} {e : Expr} {es : List Expr} {Fs : M (List D)} {k n : Nat} {f : Fn} {x : Str} {p pos : Pos}
theorem call_core {W : Wd} {H : Hp} {O Ms : List Addr} {σ : St} {z z1 : Z} {Q : VK} {W1 : Wd} {H1 : Hp} {O1 M1 : List Addr} {ds : List D} {vs : List V} {fp : List Addr} (rl1 : Rel P W1 H1 O1 M1 σ z1) (st1 : Stp Ms W W1 H H1 O O1 Ms M1)
    (hd : DenL P W1 H1 fp vs ds) (ho : Own H W1 O1 M1 fp) (hn : ds.length = n)
    (p1 : Post P Wx σ W H O Ms (KE P H Q) ((match f (ds.map frz) z1.st with
      | .ok d s => .ok d { z1 with st := s }
      | .exc c fs s => .exc c fs { z1 with st := s }
      | .stk => .stk : R D))) : spFn P n f vs H1 Q (fun cls d H' => Wx cls d σ H') := by
  have hs1 : ∀ a ∈ fp, H1 a ≠ none := fun a ha => hd.stands ha
  have rl2 := rl1.fix hs1 ho
  have sA : Stp Ms W (W1.add H1 fp) H H1 O O1 Ms M1 := st1.fix ho
  have hl : DenL P (W1.add H1 fp) H1 [] vs (frzL ds) := DenL.frz (Wd.add_le ho.oF) (fun a ha o e => by rw [Wd.add_at ha]; exact e) hd
  rw [frzL_map] at hl
  have nd1 := List.nodup_append.mp rl1.nd
  refine ⟨ds.map frz, z1.st, W1.add H1 fp, M1, by rw [List.length_map]; exact hn, hl, rl2.sub, rl2.st, nd1.2.1, fun a ha => rl2.off a (List.mem_append_right _ ha), ?_⟩
  -- the frame behind the call
  have frame : ∀ {W' : Wd} {H' : Hp} {M' : List Addr} {s' : List Ob} {fp' : List Addr} {v : V} {d : D}, RelR P W' H' fp' M' v d s' → Stp M1 (W1.add H1 fp) W' H1 H' [] fp' M1 M' → Rel P W' H' O1 M' σ { z1 with st := s' } ∧ Stp Ms W W' H H' O O1 Ms M' := by
    intro W' H' M' s' fp' v d r s
    have oO : ∀ a ∈ O1, H1 a ≠ none := fun a ha h => rl1.ownO h ha
    have oM : ∀ a ∈ O1, a ∉ M1 := fun a ha h => nd1.2.2 a ha a h rfl
    refine ⟨⟨r.sub, rl2.env.mono s.le fun b hb o e => s.keep b o e (oM b hb), r.st, List.nodup_append.mpr ⟨nd1.1, (List.nodup_append.mp r.nd).2.1, fun a ha b hb q => ?_⟩, fun a ha => ?_⟩, ?_⟩
    · subst q
      exact (s.fM a hb).elim (oM a ha) (oO a ha)
    · rcases List.mem_append.mp ha with h | h
      · cases e : W'.F a with
        | none => rfl
        | some o =>
          rcases s.fF a (by rw [e]; simp) with q | q | q
          · exact absurd (rl2.off a (List.mem_append_left _ h)) q
          · simp at q
          · exact absurd q (oO a h)
      · exact r.off a (List.mem_append_right _ h)
    · have s2 : Stp M1 (W1.add H1 fp) W' H1 H' O1 O1 M1 M' := ⟨s.le, s.keep, s.dom, fun a ha => (s.fF a ha).elim .inl fun q => q.elim (fun q => by simp at q) fun q => .inr (.inr q), fun a h => .inl h, s.fM⟩
      exact sA.transE s2
  cases e : f (ds.map frz) z1.st with
  | stk => rw [e] at p1; exact p1
  | exc c fs s' =>
    rw [e] at p1
    intro cls dx W' H' M' r s he
    obtain ⟨rl', st'⟩ := frame r s
    exact p1 cls dx W' H' O1 M' rl' st' he
  | ok d s' =>
    rw [e] at p1
    intro v W' H' M' fp' r s
    obtain ⟨rl', st'⟩ := frame r s
    have nd' := List.nodup_append.mp r.nd
    refine p1 W' H' O1 M' rl' st' v fp' r.den ⟨nd'.1, fun a ha => ?_, fun a ha => r.off a (List.mem_append_left _ ha), fun a ha h => ?_, fun a ha h => nd'.2.2 a ha a h rfl⟩
    · exact (s.fO a ha).elim (fun q => by simp at q) fun q => st1.dom a q
    · exact (s.fO a ha).elim (fun q => by simp at q) fun q => rl1.ownO q h
theorem j_call (F : FnAt X P x k n f) (tk : Takes X Wx) (hr : Room k X.A) (hg : Gl X x) (ha : JEs X P Wx (e :: es) Fs) (hn : (e :: es).length = n := by rfl) (hdb : (x == ("__debug__" : Str)) = false := by decide)
    (he : starEach (e :: es) X.env = (false, eval e X.env) :: starEach es X.env := by rfl) (hpl : (backTo pos (starEach es X.env)).any (·.1) = false := by rfl) (hl : ∀ z ds z', Fs z = .ok ds z' → ds.length = n) :
    JE X P Wx (.Call (.Name x p) (e :: es) [] pos) (fCall f Fs) := by
  obtain ⟨fa, fd, ps, ok, hm, hk, hb⟩ := F.ex
  obtain ⟨ts, pa, ks⟩ := ha
  refine ⟨_, pe_callS (E := WE Wx) ok hr hg hm hk hb (passAt tk) pa hdb he hpl, fun z W H O Ms σ Q rl q => ?_⟩
  have key := ks z W H O Ms σ (fun vs H1 => spFn P n f vs H1 Q (WE Wx σ)) rl
  refine key ?_
  have q0 := q.bind0
  cases eF : Fs z with
  | stk => rw [eF] at q0; exact q0
  | exc c fs z1 => rw [eF] at q0; exact q0
  | ok ds z1 =>
    rw [eF] at q0
    intro W1 H1 O1 M1 rl1 st1 vs fp hd ho
    exact call_core (z := z) rl1 st1 hd ho (hl z ds z1 eF) (q0 W1 H1 O1 M1 rl1 st1)
theorem len_nil : ∀ z ds z', fNil z = .ok ds z' → ds.length = 0 := fun z ds z' e => by
  have e' : R.ok [] z = R.ok ds z' := e
  cases e'; rfl
theorem len_cons {Fa : M D} {n : Nat} (h : ∀ z ds z', Fs z = .ok ds z' → ds.length = n) : ∀ z ds z', fCons Fa Fs z = .ok ds z' → ds.length = n + 1 := fun z ds z' e => by
  unfold fCons bnd at e
  cases e1 : Fa z with
  | stk => rw [e1] at e; cases e
  | exc c fs z1 => rw [e1] at e; cases e
  | ok d z1 =>
    rw [e1] at e
    simp only at e
    cases e2 : Fs z1 with
    | stk => rw [e2] at e; cases e
    | exc c fs z2 => rw [e2] at e; cases e
    | ok es z2 =>
      rw [e2] at e
      have e' : R.ok (d :: es) z2 = R.ok ds z' := e
      have h3 := h z1 es z2 e2
      cases e'
      simp [h3]
end

/-! ### raise -/
/-- a class of errors of the text, its __init__ that stores one field -/
def spIni (C : Addr) (fl : Str) : Sp := fun vs H Q _ => ∃ (a : Addr) (v : V), vs = [.ref a, v] ∧ H a = some (exo a C none) ∧ ∀ dx, H dx = none → dx ≠ a → Q .non (upd (upd H dx (exd dx [(fl, v)])) a (exo a C (some dx)))
structure ExcAt (X : Cx) (P : Par) (x : Str) (c : String) (fl : String) (k : Nat) : Prop where
  ex : ∃ (fI : Addr) (fd : FuncData) (ps : List Str), OexC X.K (P.cl c) ∧ PySem.W.findIn X.K (.ref (P.cl c)) "__init__" = some (some (.ref fI)) ∧ PySem.W.typeIn X.K (.ref fI) = some (.type "function") ∧
    FnOk X.prog X.w X.K X.mg X.base (L2.CX X.prog X.w) k fI fd ps (spIni (P.cl c) (PySem.Str.ofString fl)) ∧ Binds X.K fd ps [] ∧ X.mg x = some (.ref (P.cl c))
  nm : excNames c = [fl]
def fRaise (c : String) (Fs : M (List D)) : M Fl := bnd Fs fun ds z => .exc c (ds.map frz) z
section
variable {X : Cx} {P : Par} {Wx : WX} {e : Expr} {Fs : M (List D)} {k : Nat} {x : Str} {c fl : String} {p pos pos2 : Pos}
theorem passL0 {X : Cx} : Passes (L2.CX X.prog X.w) X (fun _ _ _ => False) := passL
theorem js_raise (hc : X.calm = true) (T : ExcAt X P x c fl k) (tk : Takes X Wx) (hr : Room (k + 1) X.A) (hg : Gl X x) (ha : JEs X P Wx [e] Fs) (hdb : (x == ("__debug__" : Str)) = false := by decide)
    (he : starEach (e :: []) X.env = (false, eval e X.env) :: starEach [] X.env := by rfl) (hpl : (backTo pos (starEach [] X.env)).any (·.1) = false := by rfl) (hl : ∀ z ds z', Fs z = .ok ds z' → ds.length = 1) :
    JS X P Wx (.Raise (some (.Call (.Name x p) [e] [] pos)) none pos2) (fRaise c Fs) := by
  obtain ⟨fI, fd, ps, T1, iC, tI, F1, hb, hm⟩ := T.ex
  obtain ⟨ts, pa, ks⟩ := ha
  refine ⟨_, ps_raise hc tk (pmk_oex T1 iC tI F1 hr hb .nil passL0 hg hm pa hdb he hpl), fun z W H O Ms σ Dn rl q => ?_⟩
  refine ks z W H O Ms σ _ rl ?_
  have q0 := PostS.bind (σ := σ) q
  cases eF : Fs z with
  | stk => rw [eF] at q0; exact q0
  | exc c fs z1 => rw [eF] at q0; exact q0
  | ok ds z1 =>
    rw [eF] at q0
    intro W1 H1 O1 M1 rl1 st1 vs fp hd ho
    have hlen := hl z ds z1 eF
    have p1 := (q0 W1 H1 O1 M1 rl1 st1).1
    match ds, hlen with
    | [d], _ =>
      have hvl := hd.len
      obtain ⟨v, rfl⟩ : ∃ v, vs = [v] := by
        match vs, hvl with
        | [v], _ => exact ⟨v, rfl⟩
      refine ⟨by show 1 ≤ 1000; decide, fun a ha => ?_⟩
      refine ⟨a, v, rfl, upd_same, fun dx hdx hne => ⟨rfl, dx, [(PySem.Str.ofString fl, v)], upd_same, by rw [upd_ne hne, upd_same], ?_, ?_⟩⟩
      · rw [upd_ne hne] at hdx; exact hdx
      · have hdx1 : H1 dx = none := by rw [upd_ne hne] at hdx; exact hdx
        have eH : upd (del (upd (upd (upd H1 a (exo a (P.cl c) none)) dx (exd dx [(PySem.Str.ofString fl, v)])) a (exo a (P.cl c) (some dx))) a) dx (.xd [(PySem.Str.ofString fl, v)]) = upd H1 dx (.xd [(PySem.Str.ofString fl, v)]) := by
          funext b
          by_cases h1 : b = dx
          · subst h1; rw [upd_same, upd_same]
          · rw [upd_ne h1, upd_ne h1]
            by_cases h2 : b = a
            · subst h2; rw [del_same, ha]
            · rw [del_ne h2, upd_ne h2, upd_ne h1, upd_ne h2]
        rw [eH]
        have hs1 : ∀ b ∈ fp, H1 b ≠ none := fun b hb => hd.stands hb
        have rl2 := rl1.fix hs1 ho
        have sA : Stp Ms W (W1.add H1 fp) H H1 O O1 Ms M1 := st1.fix ho
        have hlD : DenL P (W1.add H1 fp) H1 [] [v] (frzL [d]) := DenL.frz (Wd.add_le ho.oF) (fun b hb o e => by rw [Wd.add_at hb]; exact e) hd
        obtain ⟨r, s⟩ := rl2.new hdx1 (.xd [(PySem.Str.ofString fl, v)])
        have sT := sA.transE s
        refine p1 _ _ σ _ _ O1 M1 r sT.es ⟨rfl, dx, [v], rfl, ?_, ?_, ?_⟩
        · rw [T.nm]; exact upd_same
        · rw [T.nm]; rfl
        · rw [frzL_map] at hlD
          exact hlD.any
end

/-! ### isinstance -/
def dty : D → String
  | .non => "NoneType" | .bl _ => "bool" | .int _ => "int" | .str _ => "str" | .tup _ => "tuple" | .lst _ _ => "list" | .dic _ _ _ => "dict"
  | .obj _ => "" | .exc _ _ => ""
def isKnown : D → Bool
  | .obj _ => false | .exc _ _ => false | _ => true
/-- isinstance of data and a built-in type -/
def isiB (a b : String) : Bool := a == b || (a == "bool" && b == "int")
def dIsi (T : String) (d : D) : Option D := if isKnown d then some (.bl (isiB (dty d) T)) else none
def kitTab (T : String) : Bool := ["NoneType", "bool", "int", "str", "tuple", "list", "dict"].all fun a => decide (kitB a T = some (isiB a T))
theorem den_tyX {P : Par} {K : PySem.W.Frag} {W : Wd} {H : Hp} {f : List Addr} {x : V} {d : D} (sub : ∀ a o, W.F a = some o → H a = some o) (h : Den P W H f x d) (k : isKnown d = true) : TyX K H x (.type (dty d)) := by
  match d, k with
  | .non, _ => rw [(den_non_inv h).1]; exact .base .non
  | .bl b, _ => rw [(den_blI h).1]; exact .base (.bl b)
  | .int b, _ => rw [(den_int_inv h).1]; exact .base (.int b)
  | .str b, _ => rw [(den_str_inv h).1]; exact .base (.str _)
  | .tup b, _ => obtain ⟨_, a, vs, e, ha, _⟩ := den_tup_inv h; rw [e]; exact .base (.tup (sub _ _ ha))
  | .lst false b, _ => obtain ⟨_, a, vs, e, ha, _⟩ := den_lf_inv h; rw [e]; exact .base (.lst (sub _ _ ha))
  | .lst true b, _ => obtain ⟨a, vs, _, e, ha, _⟩ := den_lt_inv h; rw [e]; exact .base (.lst ha)
  | .dic false ks b, _ =>
    simp only [Den] at h
    obtain ⟨_, a, vs, e, ha, _⟩ := h
    rw [e]
    rcases ha.mono (H' := H) (sub a) with ⟨kvs, _, ha⟩ | ⟨kvs, _, ha⟩
    · exact .base (.dK ha)
    · exact .base (.dT ha)
  | .dic true ks b, _ =>
    simp only [Den] at h
    obtain ⟨a, vs, _, e, ha, _⟩ := h
    rw [e]
    rcases ha with ⟨kvs, _, ha⟩ | ⟨kvs, _, ha⟩
    · exact .base (.dK ha)
    · exact .base (.dT ha)
theorem dty_mem {d : D} (k : isKnown d = true) : dty d ∈ ["NoneType", "bool", "int", "str", "tuple", "list", "dict"] := by
  cases d <;> simp [dty, isKnown] at k ⊢
section
variable {X : Cx} {P : Par} {Wx : WX} {e : Expr} {Fa : M D} {pos p p2 : Pos} {y : Str} {T : String}
theorem j_isi (hg : Gl X "isinstance") (hm : X.mg "isinstance" = none) (hgT : Gl X y) (hmT : X.mg y = none) (hvT : bootBuiltins y = some (.type T)) (hT : kitTab T = true) (ha : JB X P Wx e Fa) (hn : y ≠ "__name__" := by decide) (hd : (y == ("__debug__" : Str)) = false := by decide)
    (hs1 : starEach [e, .Name y p2] X.env = (false, eval e X.env) :: starEach [.Name y p2] X.env := by rfl) (hs2 : starEach [.Name y p2] X.env = (false, eval (.Name y p2) X.env) :: starEach [] X.env := by rfl) (hpl : (backTo pos (starEach [.Name y p2] X.env)).any (·.1) = false := by rfl) :
    JE X P Wx (.Call (.Name "isinstance" p) [e, .Name y p2] [] pos) (fUn (dIsi T) Fa) := by
  obtain ⟨ta, pa, ka⟩ := ha
  refine ⟨_, pe_callB call_isi hg hm PyProof.Rows.boot_isinstance (pa_cons pa (pa_cons (pe_bltn (v := .ty T) hgT hmT hvT rfl hn hd) pa_nil hs2) hs1) (by decide) (by decide) hs1 hpl, fun z W H O Ms σ Q rl q => ?_⟩
  refine ka z W H O Ms σ _ rl (q.bind.mono fun d z1 W1 H1 O1 M1 rl1 st1 ⟨_, _, p1⟩ v fp hd ho => ?_)
  obtain ⟨r, ed, kk⟩ := Post.lift rl1 p1
  unfold dIsi at ed
  split at ed
  · rename_i kn
    cases ed
    have hk : kitB (dty d) T = some (isiB (dty d) T) := by
      unfold kitTab at hT
      rw [List.all_eq_true] at hT
      exact of_decide_eq_true (hT _ (dty_mem kn))
    exact ⟨v, .ty T, _, _, _, rfl, .ty T, den_tyX rl1.sub hd kn, kit_ty hk, kk _ [] den_bl .nil⟩
  · cases ed
end
end G

namespace G
open PySem L2
section
variable {P : Par}
/-! ### the store -/
theorem DenS.at {W : Wd} {H : Hp} : ∀ {s : List Ob} {as M : List Addr} {n : Nat} {ob : Ob}, DenS P W H M as s → s[n]? = some ob →
    ∃ a m1 m m2, as[n]? = some a ∧ M = m1 ++ (m ++ m2) ∧ DenOb P W H m a ob ∧
      ∀ (W' : Wd) (H' : Hp) (m' : List Addr) (ob' : Ob), W.le W' → (∀ b ∈ m1 ++ m2, ∀ o, H b = some o → H' b = some o) → DenOb P W' H' m' a ob' → DenS P W' H' (m1 ++ (m' ++ m2)) as (s.set n ob')
  | [], _, _, n, ob, _, e => by simp at e
  | o :: os, [], _, _, _, h, _ => h.elim
  | o :: os, a :: as, M, 0, ob, h, e => by
    obtain ⟨m1, m2, eM, h1, h2⟩ := h
    have e0 : o = ob := by simpa using e
    subst e0
    exact ⟨a, [], m1, m2, by simp, eM, h1, fun W' H' m' ob' le k h' => ⟨m', m2, rfl, h', h2.mono le fun b hb => k b (by simpa using hb)⟩⟩
  | o :: os, a :: as, M, n + 1, ob, h, e => by
    obtain ⟨p1, p2, eM, h1, h2⟩ := h
    obtain ⟨a', m1, m, m2, ea, eM2, hd, k⟩ := DenS.at (n := n) h2 (by simpa using e)
    subst eM2
    refine ⟨a', p1 ++ m1, m, m2, by simpa using ea, by rw [eM]; simp, hd, fun W' H' m' ob' le kk h' => ?_⟩
    refine ⟨p1, m1 ++ (m' ++ m2), by simp, h1.mono le fun b hb => kk b (by simp [hb]), ?_⟩
    exact k W' H' m' ob' le (fun b hb => kk b (by rcases List.mem_append.mp hb with z | z <;> simp [z])) h'
theorem DenS.len {W : Wd} {H : Hp} : ∀ {s : List Ob} {as M : List Addr}, DenS P W H M as s → as.length = s.length
  | [], [], _, _ => rfl
  | [], _ :: _, _, h => h.elim
  | _ :: _, [], _, h => h.elim
  | o :: os, a :: as, M, h => by
    obtain ⟨m1, m2, e, h1, h2⟩ := h
    simp [DenS.len h2]
theorem DenS.snoc {W : Wd} {H : Hp} {ob : Ob} {a : Addr} {m : List Addr} : ∀ {s : List Ob} {as M : List Addr}, DenS P W H M as s → DenOb P W H m a ob → DenS P W H (M ++ m) (as ++ [a]) (s ++ [ob])
  | [], [], M, h, k => by
    rw [show M = [] from h]
    exact ⟨m, [], by simp, k, rfl⟩
  | [], _ :: _, _, h, _ => h.elim
  | _ :: _, [], _, h, _ => h.elim
  | o :: os, a' :: as, M, h, k => by
    obtain ⟨m1, m2, e, h1, h2⟩ := h
    exact ⟨m1, m2 ++ m, by rw [e]; simp, h1, DenS.snoc h2 k⟩
end

/-! ### the stream: read, stored, made -/
def ixO (st : List Ob) : D → D → Option D
  | .obj n, .int i => match st[n]? with
    | some (.strm ns cell k) => if i = 0 then some (.lst false (ns.map .int)) else if i = 1 then some (.int cell) else if i = 2 then some (.int k) else none
    | _ => none
  | _, _ => none
theorem ixO_inv {st : List Ob} {x y d : D} (e : ixO st x y = some d) : ∃ n i ns cell k, x = .obj n ∧ y = .int i ∧ st[n]? = some (.strm ns cell k) ∧ (if i = 0 then some (D.lst false (ns.map .int)) else if i = 1 then some (.int cell) else if i = 2 then some (.int k) else none) = some d := by
  unfold ixO at e
  split at e
  · rename_i n i
    split at e
    · rename_i ns cell k es; exact ⟨n, i, ns, cell, k, rfl, rfl, es, e⟩
    · cases e
  · cases e
def fIxO (Fa Fb : M D) : M D := bnd Fa fun x => bnd Fb fun i => fun z => lift (ixO z.st x i) z
section
variable {X : Cx} {P : Par} {Wx : WX} {a b e e1 : Expr} {Fa Fb F : M D} {pos p1 p2 p3 : Pos}
theorem den_ints {W : Wd} {H : Hp} : ∀ ns : List Int, DenL P W H [] (ns.map V.int) (ns.map .int)
  | [] => DenL.nil
  | n :: ns => DenL.cons0 den_int (den_ints ns)
theorem ints_get {ns : List Int} {v : V} {i : Nat} (h : (ns.map V.int)[i]? = some v) : ∃ n, v = .int n := by
  rw [List.getElem?_map] at h
  cases e : ns[i]? with
  | none => rw [e] at h; cases h
  | some n => rw [e] at h; exact ⟨n, (Option.some.inj h).symm⟩
theorem j_ixO (ha : JB X P Wx a Fa) (hb : JB X P Wx b Fb) (hs : PlainIx b) : JE X P Wx (.Subscript a b pos) (fIxO Fa Fb) := by
  obtain ⟨ta, pa, ka⟩ := ha
  obtain ⟨tb, pb, kb⟩ := hb
  refine ⟨_, pe_ix ix_list pa pb hs, fun z W H O Ms σ Q rl p => ?_⟩
  refine ka z W H O Ms σ _ rl (p.bind.mono fun da z1 W1 H1 O1 M1 rl1 st1 ⟨_, _, p1⟩ x fa hx hfa => ?_)
  refine kb z1 W1 H1 O1 M1 σ _ rl1 (p1.bind.mono fun db z2 W2 H2 O2 M2 rl2 st2 ⟨_, _, p2⟩ y fb hy hfb => ?_)
  obtain ⟨d, ed, k⟩ := p2.lift'
  obtain ⟨hx2, hfa2⟩ := hx.keepE st2 hfa
  obtain ⟨n, i, ns, cell, kk, rfl, rfl, es, ed⟩ := ixO_inv ed
  obtain ⟨a, m1, m, m2, ea, eM, hob, _⟩ := rl2.st.at es
  simp only [Den] at hx2
  obtain ⟨_, a', ea', ex⟩ := hx2
  rw [ea] at ea'
  cases ea'
  obtain ⟨_, l, hl, hF⟩ := hob
  have hi := (den_int_inv hy).1
  by_cases h0 : i = 0
  · subst h0
    rw [if_pos rfl] at ed
    cases ed
    refine ⟨a, _, 0, .ref l, ex, hi, SqL.of hl, rfl, k _ _ _ _ rl2 .refl _ [] ?_ .nil⟩
    simp only [Den]
    exact ⟨trivial, l, _, rfl, hF, den_ints ns⟩
  · rw [if_neg h0] at ed
    by_cases h1 : i = 1
    · subst h1
      rw [if_pos rfl] at ed
      cases ed
      exact ⟨a, _, 1, .int cell, ex, hi, SqL.of hl, rfl, k _ _ _ _ rl2 .refl _ [] den_int .nil⟩
    · rw [if_neg h1] at ed
      by_cases h2 : i = 2
      · subst h2
        rw [if_pos rfl] at ed
        cases ed
        exact ⟨a, _, 2, .int kk, ex, hi, SqL.of hl, rfl, k _ _ _ _ rl2 .refl _ [] den_int .nil⟩
      · rw [if_neg h2] at ed; cases ed
/-- s[1] = e, s[2] = e -/
def setO (st : List Ob) : D → D → D → Option (List Ob)
  | .obj n, .int i, .int v => match st[n]? with
    | some (.strm ns cell k) => if i = 1 then some (st.set n (.strm ns v k)) else if i = 2 then some (st.set n (.strm ns cell v)) else none
    | _ => none
  | _, _, _ => none
theorem setO_inv {st s : List Ob} {x y d : D} (e : setO st x y d = some s) : ∃ n i v ns cell k, x = .obj n ∧ y = .int i ∧ d = .int v ∧ st[n]? = some (.strm ns cell k) ∧ (if i = 1 then some (st.set n (.strm ns v k)) else if i = 2 then some (st.set n (.strm ns cell v)) else none) = some s := by
  unfold setO at e
  split at e
  · rename_i n i v
    split at e
    · rename_i ns cell k es; exact ⟨n, i, v, ns, cell, k, rfl, rfl, rfl, es, e⟩
    · cases e
  · cases e
def fSetO (F Fa Fb : M D) : M Fl := bnd F fun d => bnd Fa fun x => bnd Fb fun i => fun z => match setO z.st x i d with
  | some s => .ok .nx { z with st := s }
  | none => .stk
theorem js_setO (he : JE X P Wx e F) (ha : JB X P Wx a Fa) (hb : JB X P Wx b Fb) (hsw : swapsWith e (some (.Subscript a b p1)) pos.line X.env = pure false := by rfl) (hst : swappedStores [.Subscript a b p1] e X.env = pure none := by rfl)
    (hg : ∀ {ta tb : TE}, PE X a ta → PE X b tb → PG X (.Subscript a b p1) (gSub ta tb rSetL)) (hs1 : swapsWithSole [.Subscript a b p1] e pos.line X.env = pure false := by rfl) : JS X P Wx (.Assign [.Subscript a b p1] e pos) (fSetO F Fa Fb) := by
  obtain ⟨te, pe, ke⟩ := he
  obtain ⟨ta, pa, ka⟩ := ha
  obtain ⟨tb, pb, kb⟩ := hb
  refine ⟨_, ps_asg pe (hg pa pb) hs1 hst, fun z W H O Ms σ Dn rl p => ?_⟩
  refine ke z W H O Ms σ _ rl (p.bind.mono fun d z1 W1 H1 O1 M1 rl1 st1 ⟨_, q1⟩ v fp hd ho => ?_)
  refine ka z1 W1 H1 O1 M1 σ _ rl1 ((PostS.bind q1).mono fun da z2 W2 H2 O2 M2 rl2 st2 ⟨_, q2⟩ x fa hx hfa => ?_)
  refine kb z2 W2 H2 O2 M2 σ _ rl2 ((PostS.bind q2).mono fun db z3 W3 H3 O3 M3 rl3 st3 ⟨_, q3⟩ y fb hy hfb => ?_)
  cases eS : setO z3.st da db d with
  | none => rw [eS] at q3; exact q3.elim
  | some s =>
    rw [eS] at q3
    obtain ⟨n, i, w, ns, cell, kk, rfl, rfl, rfl, es, eS⟩ := setO_inv eS
    obtain ⟨a, m1, m, m2, ea, eM, hob, rep⟩ := rl3.st.at es
    obtain ⟨hx3, _⟩ := hx.keepE st3 hfa
    simp only [Den] at hx3
    obtain ⟨_, a', ea', ex⟩ := hx3
    rw [ea] at ea'
    cases ea'
    obtain ⟨em, l, hl, hF⟩ := hob
    subst em
    have hv : v = .int w := (den_int_inv hd).1
    have hi := (den_int_inv hy).1
    -- the list of three is written
    have nd := List.nodup_append.mp rl3.nd
    have ham : a ∈ M3 := by rw [eM]; simp
    have haO : a ∉ O3 := fun h => nd.2.2 a h a ham rfl
    have haF : W3.F a = none := rl3.off a (List.mem_append_right _ ham)
    have hn12 : a ∉ m1 ++ m2 := by
      have nM := nd.2.1
      rw [eM] at nM
      have n1 := List.nodup_append.mp nM
      have n2 := List.nodup_append.mp n1.2.1
      intro h
      rcases List.mem_append.mp h with h | h
      · exact n1.2.2 a h a (by simp) rfl
      · exact n2.2.2 a (by simp) a h rfl
    have fin : ∀ {vs' : List V} {ob' : Ob}, DenOb P W3 (upd H3 a (.lst vs')) [a] a ob' → Rel P W3 (upd H3 a (.lst vs')) O3 M3 σ { z3 with st := z3.st.set n ob' } ∧ Stp (M3 ++ O3) W3 W3 H3 (upd H3 a (.lst vs')) O3 O3 M3 M3 := by
      intro vs' ob' hob'
      have kp : ∀ b o, b ≠ a → H3 b = some o → (upd H3 a (.lst vs')) b = some o := fun b o hb e => by rw [upd_ne hb]; exact e
      refine ⟨⟨fun b o eb => kp b o (fun q => by rw [q, haF] at eb; cases eb) (rl3.sub b o eb), rl3.env.mono (Wd.le.refl _) fun b hb o eb => kp b o (fun q => haO (q ▸ hb)) eb, ?_, rl3.nd, rl3.off⟩, ⟨Wd.le.refl _, fun b o eb hb => kp b o (fun q => hb (by rw [q]; simp [ham])) eb, fun b eb => ?_, fun _ h => .inl h, fun _ h => .inl h, fun _ h => .inl h⟩⟩
      · have := rep W3 (upd H3 a (.lst vs')) [a] ob' (Wd.le.refl _) (fun b hb o eb => kp b o (fun q => hn12 (q ▸ hb)) eb) hob'
        rw [eM]; exact this
      · by_cases hb : b = a
        · rw [hb, upd_same] at eb; cases eb
        · rw [upd_ne hb] at eb; exact eb
    by_cases h1 : i = 1
    · subst h1
      rw [if_pos rfl] at eS
      cases eS
      obtain ⟨r, s⟩ := fin (vs' := [.ref l, .int w, .int kk]) (ob' := .strm ns w kk) ⟨rfl, l, upd_same, hF⟩
      refine ⟨a, _, 1, 1, ex, hi, hl, rfl, ?_⟩
      rw [hv]
      exact q3 σ _ _ _ _ r s
    · rw [if_neg h1] at eS
      by_cases h2 : i = 2
      · subst h2
        rw [if_pos rfl] at eS
        cases eS
        obtain ⟨r, s⟩ := fin (vs' := [.ref l, .int cell, .int w]) (ob' := .strm ns cell w) ⟨rfl, l, upd_same, hF⟩
        refine ⟨a, _, 2, 2, ex, hi, hl, rfl, ?_⟩
        rw [hv]
        exact q3 σ _ _ _ _ r s
      · rw [if_neg h2] at eS; cases eS
/-- return [list(script), 0, 0] -/
def fStrm (i : Nat) : M Fl := fun z => match z.env[i]? with
  | some (some (.obj n)) => match z.st[n]? with
    | some (.scr ns) => .ok (.rt (.obj z.st.length)) { z with st := z.st ++ [.strm ns 0 0] }
    | _ => .stk
  | _ => .stk
theorem js_strm {i : Nat} {x : Str} {pa pb pc pd : Pos} {j1 j2 : Nat} (hK : P.K = X.K) (hN : X.N[i]? = some x) (hv : Vis X.env.scope x) (hg : Gl X "list") (hm : X.mg "list" = none) (hd : (x == ("__debug__" : Str)) = false := by decide) (hcd : (x == ("__classdict__" : Str)) = false := by decide)
    (h1 : starEach [Expr.Call (.Name "list" pa) [.Name x pb] [] pc, .Constant (.int 0) j1 p1, .Constant (.int 0) j2 p2] X.env = (false, eval (Expr.Call (.Name "list" pa) [.Name x pb] [] pc) X.env) :: starEach [.Constant (.int 0) j1 p1, .Constant (.int 0) j2 p2] X.env := by rfl)
    (h2 : starEach [Expr.Constant (.int 0) j1 p1, .Constant (.int 0) j2 p2] X.env = (false, eval (Expr.Constant (.int 0) j1 p1) X.env) :: starEach [.Constant (.int 0) j2 p2] X.env := by rfl)
    (h3 : starEach [Expr.Constant (.int 0) j2 p2] X.env = (false, eval (Expr.Constant (.int 0) j2 p2) X.env) :: starEach [] X.env := by rfl) (h4 : starEach [Expr.Name x pb] X.env = (false, eval (Expr.Name x pb) X.env) :: starEach [] X.env := by rfl)
    (h5 : (backTo pc (starEach ([] : List Expr) X.env)).any (·.1) = false := by rfl) :
    JS X P Wx (.Return (some (.List [.Call (.Name "list" pa) [.Name x pb] [] pc, .Constant (.int 0) j1 p1, .Constant (.int 0) j2 p2] pd)) pos) (fStrm i) := by
  refine ⟨_, ps_ret (pe_lst (pa_cons (pe_callTy call_list_of hg hm (by decide +kernel) (pa_cons (pe_var hN hv hd hcd) pa_nil h4) (by decide) (by decide) h4 h5) (pa_cons pe_int (pa_cons pe_int pa_nil h3) h2) h1)), fun z W H O Ms σ Dn rl p => ?_⟩
  unfold fStrm at p
  split at p
  · rename_i n e
    split at p
    · rename_i ns es
      obtain ⟨v, o1, om, o2, eo, ev, hden, _⟩ := rl.env.split e
      obtain ⟨a, m1, m, m2, ea, eM, hob, _⟩ := rl.st.at es
      simp only [Den] at hden
      obtain ⟨_, a', ea', ex⟩ := hden
      rw [ea] at ea'
      cases ea'
      subst ex
      obtain ⟨_, hq⟩ := hob
      have hq' : SqL X.K H a (ns.map V.int) := by rw [← hK]; exact SqL.le rl.sub hq
      refine ⟨.ref a, ev, a, _, rfl, .inl hq', fun l hl => ?_⟩
      obtain ⟨r1, s1⟩ := rl.put hl (.lst (ns.map V.int))
      refine ⟨by show 3 ≤ sizeLine; rw [big_eq]; decide, fun b hb => ?_⟩
      obtain ⟨r2, s2⟩ := r1.new hb (.lst [.ref l, .int 0, .int 0])
      have s12 := s1.transE s2
      have hbl : l ≠ b := fun q => by rw [← q, upd_same] at hb; cases hb
      have hlen := rl.st.len
      -- the store with the new stream
      let W3 : Wd := ⟨(W.put l (.lst (ns.map V.int))).F, W.oas ++ [b]⟩
      have le3 : (W.put l (.lst (ns.map V.int))).le W3 := ⟨fun _ _ e => e, fun k c hk => by
        have hk' : W.oas[k]? = some c := hk
        show (W.oas ++ [b])[k]? = some c
        rw [List.getElem?_append_left (List.getElem?_eq_some_iff.mp hk').1]; exact hk'⟩
      have hbH : H b = none := upd_free hl hb
      have hst : DenS P W3 (upd (upd H l (.lst (ns.map V.int))) b (.lst [.ref l, .int 0, .int 0])) (Ms ++ [b]) (W.oas ++ [b]) (z.st ++ [.strm ns 0 0]) :=
        DenS.snoc (r2.st.mono le3 fun _ _ _ e => e) ⟨rfl, l, upd_same, (show upd W.F l (.lst (ns.map V.int)) l = _ from upd_same)⟩
      refine p (.ref b) W3 _ (Ms ++ [b]) [] ⟨r2.sub, ?_, hst, ?_, fun c hc => ?_⟩ ⟨s12.le.trans le3, s12.es.keep, s12.dom, s12.fF, by simp, fun c hc => ?_⟩
      · simp only [Den]
        refine ⟨trivial, b, ?_, rfl⟩
        show (W.oas ++ [b])[z.st.length]? = some b
        rw [← hlen, List.getElem?_append_right (Nat.le_refl _)]; simp
      · rw [List.nil_append]
        refine List.nodup_append.mpr ⟨(List.nodup_append.mp rl.nd).2.1, by simp, fun c hc d hd q => ?_⟩
        rw [List.mem_singleton.mp hd] at q
        subst q
        exact rl.ownM hbH hc
      · rw [List.nil_append] at hc
        rcases List.mem_append.mp hc with h | h
        · exact r2.off c (List.mem_append_right _ h)
        · rw [List.mem_singleton.mp h]
          show upd W.F l (.lst (ns.map V.int)) b = none
          rw [upd_ne (Ne.symm hbl)]; exact rl.freeF hbH
      · rcases List.mem_append.mp hc with h | h
        · exact .inl h
        · rw [List.mem_singleton.mp h]; exact .inr hbH
    · exact p.elim
  · exact p.elim
end
end G

namespace G
open PySem L2
section
variable {X : Cx} {P : Par} {Wx : WX} {a b c e e1 o : Expr} {es : List Expr} {Fa Fb Fc F : M D} {Fs : M (List D)} {pos p p1 p2 p3 apos : Pos} {k : Nat}
/-! ### short words -/
theorem hu64 (hr : Room k X.A) : X.A.units + 64 < cLine := by have := hr.un; omega
theorem hu65 (hr : Room k X.A) : X.A.units + 65 < cLine := by have := hr.un; omega
theorem hu1 (hr : Room k X.A) : X.A.units + 1 < cLine := by have := hr.un; omega
theorem hu0 (hr : Room k X.A) : X.A.units < cLine := by have := hr.un; omega
/-- a module's constant -/
theorem j_gint {x : Str} {i : Int} (hg : Gl X x) (hm : ∃ t, X.mg x = some (.int i t)) (hd : (x == ("__debug__" : Str)) = false := by decide) : JE X P Wx (.Name x pos) (fC (.int i)) := by
  obtain ⟨t, hm⟩ := hm
  exact ⟨_, pe_glob (v := .int i) hg hm ⟨t, rfl⟩ hd, fun z W H O Ms σ Q rl p => p _ _ _ _ rl .refl _ [] den_int .nil⟩
theorem j_gstr {x : Str} {l : List Nat} (hg : Gl X x) (hm : ∃ t, X.mg x = some (.str (sOf l) t)) (ho : okS l = true) (hd : (x == ("__debug__" : Str)) = false := by decide) : JE X P Wx (.Name x pos) (fC (.str l)) := by
  obtain ⟨t, hm⟩ := hm
  exact ⟨_, pe_glob (v := .str (sOf l)) hg hm ⟨t, rfl⟩ hd, fun z W H O Ms σ Q rl p => p _ _ _ _ rl .refl _ [] (den_str ho) .nil⟩
/-! ### a < b < c -/
def fChain (g1 g2 : D → D → Option D) (Fa Fb Fc : M D) : M D := bnd Fa fun x => bnd Fb fun y => bnd (lift (g1 x y)) fun r => bnd (lift (asB r)) fun t => if t then bnd Fc fun z => lift (g2 y z) else ret (.bl false)
/-- an operation that answers by a bool and makes nothing -/
structure OpQ (P : Par) (g : D → D → Option D) (r : R2) : Prop where
  run : ∀ {W : Wd} {H : Hp} {O Ms : List Addr} {σ : St} {z : Z} {x y : V} {da db : D} {t : Bool} {fa fb : List Addr} {Q : VK}, Rel P W H O Ms σ z → Den P W H fa x da → Den P W H fb y db → g da db = some (.bl t) → Q (.bl t) H → r x y H Q
theorem opq_int {g : Int → Int → Bool} {f : D → D → Option D} (hf : ∀ i j, f (.int i) (.int j) = some (.bl (g i j))) (hb : ∀ a b t, f a b = some (.bl t) → (∃ i j, a = .int i ∧ b = .int j)) : OpQ P f (rI0 fun i j => .bl (g i j)) := by
  constructor
  intro W H O Ms σ z x y da db t fa fb Q rl ha hb' e q
  obtain ⟨i, j, rfl, rfl⟩ := hb _ _ _ e
  rw [hf] at e
  cases e
  exact ⟨i, j, (den_int_inv ha).1, (den_int_inv hb').1, q⟩
def iLt : D → D → Option D
  | .int i, .int j => some (.bl (decide (i < j)))
  | _, _ => none
def iLe : D → D → Option D
  | .int i, .int j => some (.bl (decide (i ≤ j)))
  | _, _ => none
theorem opq_lt : OpQ P iLt (rI0 fun i j => .bl (decide (i < j))) := opq_int (fun _ _ => rfl) fun a b t e => by
  unfold iLt at e
  split at e
  · exact ⟨_, _, rfl, rfl⟩
  · cases e
theorem opq_le : OpQ P iLe (rI0 fun i j => .bl (decide (i ≤ j))) := opq_int (fun _ _ => rfl) fun a b t e => by
  unfold iLe at e
  split at e
  · exact ⟨_, _, rfl, rfl⟩
  · cases e
theorem asB_bl {d : D} {t : Bool} (h : asB d = some t) : d = .bl t := by
  match d, h with
  | .bl b, h => cases h; rfl
def isBlO (g : D → D → Option D) : Prop := ∀ a b d, g a b = some d → ∃ t, d = .bl t
theorem iLt_bl : isBlO iLt := fun a b d e => by
  unfold iLt at e
  split at e
  · cases e; exact ⟨_, rfl⟩
  · cases e
theorem iLe_bl : isBlO iLe := fun a b d e => by
  unfold iLe at e
  split at e
  · cases e; exact ⟨_, rfl⟩
  · cases e
theorem chain_run {r1 r2 : R2} {g1 g2 : D → D → Option D} (o1 : OpQ P g1 r1) (o2 : OpQ P g2 r2) (hb2 : isBlO g2) {ta tb tc : TE}
    (ka : ∀ z W H O Ms σ Q, Rel P W H O Ms σ z → Post P Wx σ W H O Ms (KB P Q) (Fa z) → ta σ H Q) (kb : ∀ z W H O Ms σ Q, Rel P W H O Ms σ z → Post P Wx σ W H O Ms (KB P Q) (Fb z) → tb σ H Q)
    (kc : ∀ z W H O Ms σ Q, Rel P W H O Ms σ z → Post P Wx σ W H O Ms (KB P Q) (Fc z) → tc σ H Q) :
    ∀ z W H O Ms σ Q, Rel P W H O Ms σ z → Post P Wx σ W H O Ms (KE P H Q) (fChain g1 g2 Fa Fb Fc z) → tChain r1 r2 ta tb tc σ H Q := by
  intro z W H O Ms σ Q rl q
  refine ka z W H O Ms σ _ rl (q.bind.mono fun da z1 W1 H1 O1 M1 rl1 st1 ⟨_, _, q1⟩ x fa hx hfa => ?_)
  refine kb z1 W1 H1 O1 M1 σ _ rl1 (q1.bind.mono fun db z2 W2 H2 O2 M2 rl2 st2 ⟨_, _, q2⟩ y fb hy hfb => ?_)
  obtain ⟨rr, er, _, _, q3⟩ := Post.lift rl2 (Post.bind q2)
  obtain ⟨t, et, _, _, q4⟩ := Post.lift rl2 (Post.bind q3)
  have e0 := asB_bl et
  subst e0
  obtain ⟨hx2, _⟩ := hx.keepE st2 hfa
  refine o1.run rl2 hx2 hy er ⟨t, rfl, ?_⟩
  cases t with
  | false =>
    rw [if_neg (by decide)]
    exact q4 _ _ _ _ rl2 .refl _ [] den_bl .nil
  | true =>
    rw [if_pos rfl]
    refine kc z2 W2 H2 O2 M2 σ _ rl2 ((Post.bind (m := Fc) q4).mono fun dc z3 W3 H3 O3 M3 rl3 st3 ⟨_, _, q5⟩ v fc hv hfc => ?_)
    obtain ⟨d, ed, kk⟩ := Post.lift rl3 q5
    obtain ⟨t2, rfl⟩ := hb2 _ _ _ ed
    obtain ⟨hy3, _⟩ := hy.keepE st3 hfb
    exact o2.run rl3 hy3 hv ed (kk _ [] den_bl .nil)
theorem j_chain {op op' : CmpOp} {r1 r2 : R2} {g1 g2 : D → D → Option D} (h1 : OpR X (compareOp op) r1) (h2 : OpR X (compareOp op') r2) (o1 : OpQ P g1 r1) (o2 : OpQ P g2 r2) (hb2 : isBlO g2) (ha : JB X P Wx a Fa) (hb : JB X P Wx b Fb) (hc : JB X P Wx c Fc)
    (hm : lastMarks [op, op'] [b, c] = false := by with_unfolding_all rfl) : JE X P Wx (.Compare a [op, op'] [b, c] pos) (fChain g1 g2 Fa Fb Fc) := by
  obtain ⟨ta, pa, ka⟩ := ha
  obtain ⟨tb, pb, kb⟩ := hb
  obtain ⟨tc, pc, kc⟩ := hc
  exact ⟨_, pe_chain h1 h2 pa pb pc hm, chain_run o1 o2 hb2 ka kb kc⟩
theorem jt_chain {op op' : CmpOp} {r1 r2 : R2} {g1 g2 : D → D → Option D} (h1 : OpR X (compareOp op) r1) (h2 : OpR X (compareOp op') r2) (o1 : OpQ P g1 r1) (o2 : OpQ P g2 r2) (hb2 : isBlO g2) (ha : JB X P Wx a Fa) (hb : JB X P Wx b Fb) (hc : JB X P Wx c Fc)
    (hm : lastMarks [op, op'] [b, c] = false := by with_unfolding_all rfl) : JT X P Wx (.Compare a [op, op'] [b, c] pos) (fTest (fChain g1 g2 Fa Fb Fc)) := by
  obtain ⟨ta, pa, ka⟩ := ha
  obtain ⟨tb, pb, kb⟩ := hb
  obtain ⟨tc, pc, kc⟩ := hc
  refine ⟨_, pt_chain h1 h2 pa pb pc hm, fun z W H O Ms σ Q rl p => ?_⟩
  refine chain_run o1 o2 hb2 ka kb kc z W H O Ms σ _ rl (p.bind.mono fun d z1 W1 H1 O1 M1 rl1 st1 ⟨_, _, q1⟩ v fp hd ho => ?_)
  obtain ⟨t, e, hk⟩ := Post.lift rl1 q1
  have e0 := asB_bl e
  subst e0
  exact ⟨t, (den_blI hd).1, hk⟩

/-! ### methods of texts -/
structure MtD (P : Par) (g : D → List D → Option D) (r : V → List V → Hp → VK → Prop) : Prop where
  run : ∀ {W : Wd} {H : Hp} {O Ms : List Addr} {σ : St} {z : Z} {x : V} {dx : D} {fx : List Addr} {vs : List V} {ds : List D} {d : D} {Q : VK}, Rel P W H O Ms σ z → Den P W H fx x dx → BorL P W H Ms vs ds → g dx ds = some d →
    (∀ v W' H' fp, Rel P W' H' O Ms σ z → Stp Ms W W' H H' O O Ms Ms → Den P W' H' fp v d → Own H W' O Ms fp → Q v H') → r x vs H Q
def isStr : D → Bool
  | .str _ => true
  | _ => false
def fMeth (g : D → List D → Option D) (Fo : M D) (Fs : M (List D)) : M D := bnd Fo fun x => if isStr x then bnd Fs fun ds => lift (g x ds) else fun _ => .stk
theorem j_meth {name : Str} {id : String} {g : D → List D → Option D} {r : V → List V → Hp → VK → Prop} (slot : Slot "str" name id) (hty : typeOf (.builtin id) = pure (.type "method_descriptor")) (hm : MtR X id r) (g0 : MtD P g r) (ho : JB X P Wx o Fa) (ha : JBs X P Wx (e :: es) Fs)
    (hbase : attributeBase o name X.env (eval o X.env) = eval o X.env := by rfl)
    (hfew : ((backTo pos (starEach (e :: es) X.env)).all (fun x => !x.1) && (backToKw pos (keywordEach [] X.env)).all (fun x => x.1.isSome)
      && decide ((e :: es).length + ([] : List Keyword).length + (if ([] : List Keyword).isEmpty then 0 else 1) < 30)) = true := by rfl)
    (hline : (apos.endLine == pos.line) = true := by rfl) (hs : starEach (e :: es) X.env = (false, eval e X.env) :: starEach es X.env := by rfl) (hplain : (backTo pos (starEach es X.env)).any (·.1) = false := by rfl) :
    JE X P Wx (.Call (.Attribute o name apos) (e :: es) [] pos) (fMeth g Fa Fs) := by
  obtain ⟨to, po, ko⟩ := ho
  obtain ⟨ts, ps, ks⟩ := ha
  refine ⟨_, pe_bm PySem.F.plainAttrs_str slot hty hm po ps hbase hfew hline hs hplain, fun z W H O Ms σ Q rl q => ?_⟩
  refine ko z W H O Ms σ _ rl (q.bind.mono fun dx z1 W1 H1 O1 M1 rl1 st1 ⟨_, _, q1⟩ x fx hx hfx => ?_)
  match dx, q1 with
  | .str l, q1 =>
    have q1' : Post P Wx σ W1 H1 O1 M1 (KE P H Q) (bnd Fs (fun ds => lift (g (.str l) ds)) z1) := q1
    refine ⟨by rw [(den_str_inv hx).1]; rfl, ks z1 W1 H1 O1 M1 σ _ rl1 (q1'.bind.mono fun ds z2 W2 H2 O2 M2 rl2 st2 ⟨_, _, q2⟩ vs hvs => ?_)⟩
    obtain ⟨d, ed, kk⟩ := q2.lift'
    obtain ⟨hx2, _⟩ := hx.keepE st2 hfx
    exact g0.run rl2 hx2 hvs ed fun v W' H' fp r s hd ho => kk _ _ _ _ r s v fp hd (ho.old fun b hb => st1.dom b (st2.dom b hb))
  | .non, q1 => exact q1.elim
  | .bl _, q1 => exact q1.elim
  | .int _, q1 => exact q1.elim
  | .tup _, q1 => exact q1.elim
  | .lst _ _, q1 => exact q1.elim
  | .dic _ _ _, q1 => exact q1.elim
  | .obj _, q1 => exact q1.elim
  | .exc _ _, q1 => exact q1.elim
/-- sep.join(texts) -/
def joinD (s : List Nat) : List (List Nat) → List Nat
  | [] => []
  | [p] => p
  | p :: q :: r => p ++ s ++ joinD s (q :: r)
def seqOf : D → Option (List D)
  | .tup xs => some xs
  | .lst _ xs => some xs
  | _ => none
def sumLen (ys : List (List Nat)) : Nat := (ys.map List.length).sum
def gJoinS (s : List Nat) (ys : List (List Nat)) : Option D := if sumLen ys + ys.length * s.length ≤ big then some (.str (joinD s ys)) else none
def gJoin : D → List D → Option D
  | .str s, [d] => ((seqOf d).bind strsD).bind (gJoinS s)
  | _, _ => none
theorem join_eqS (s : List Nat) : ∀ ys : List (List Nat), Str.join (sOf s) (ys.map sOf) = sOf (joinD s ys)
  | [] => rfl
  | [p] => rfl
  | p :: q :: r => by
    have ih := join_eqS s (q :: r)
    show sOf p ++ sOf s ++ Str.join (sOf s) ((q :: r).map sOf) = _
    rw [ih, sOf_append, sOf_append]
    rfl
theorem join_eq (s : List Nat) (ys : List (List Nat)) : Txt.join (sOf s) (ys.map sOf) = sOf (joinD s ys) := (TL.join_eq _ _).trans (join_eqS s ys)
theorem okS_join {s : List Nat} (hs : okS s = true) : ∀ {ys : List (List Nat)}, (∀ l ∈ ys, okS l = true) → sumLen ys + ys.length * s.length ≤ big → okS (joinD s ys) = true ∧ (joinD s ys).length ≤ sumLen ys + ys.length * s.length
  | [], _, _ => ⟨by show okS [] = true; decide, by simp [joinD]⟩
  | [p], h, _ => ⟨h p (by simp), by simp [joinD, sumLen]⟩
  | p :: q :: r, h, hz => by
    have e1 : sumLen (p :: q :: r) = p.length + sumLen (q :: r) := by simp [sumLen]
    have e2 : (p :: q :: r).length * s.length = s.length + (q :: r).length * s.length := by
      rw [List.length_cons, Nat.add_mul, Nat.one_mul, Nat.add_comm]
    rw [e1, e2] at hz ⊢
    obtain ⟨i1, i2⟩ := okS_join hs (ys := q :: r) (fun l hl => h l (by simp [hl])) (by omega)
    have o1 := okS_append (h p (by simp)) hs (by omega)
    have l1 : (p ++ s).length = p.length + s.length := by simp
    refine ⟨okS_append o1 i1 (by omega), ?_⟩
    show (p ++ s ++ joinD s (q :: r)).length ≤ _
    rw [List.length_append]; omega
theorem md_join {K : PySem.W.Frag} : MtD P gJoin (fun x xs H Q => ∃ a p, ∃ ys : List Str, x = .str a ∧ xs = [.ref p] ∧ (SqL K H p (ys.map V.str) ∨ SqT K H p (ys.map V.str)) ∧
    (ys.map (·.length)).sum + ys.length * a.length ≤ 16777216 ∧ Q (.str (Txt.join a ys)) H) := by
  constructor
  intro W H O Ms σ z x dx fx vs ds d Q rl hx hb e k
  unfold gJoin at e
  split at e
  · rename_i s d0
    obtain ⟨v, fp, rfl, hd, _⟩ := bor1 hb
    obtain ⟨ex, _, os⟩ := den_str_inv hx
    cases q : seqOf d0 with
    | none => rw [q] at e; cases e
    | some xs =>
      rw [q, Option.bind_some] at e
      cases q2 : strsD xs with
      | none => rw [q2] at e; cases e
      | some ys =>
        rw [q2, Option.bind_some] at e
        unfold gJoinS at e
        split at e
        · rename_i hz
          cases e
          have hxs := strsD_inv q2
          have fin : ∀ {p : Addr} {ws : List V}, (SqL K H p ws ∨ SqT K H p ws) → ∀ {fq : List Addr}, DenL P W H fq ws xs → v = .ref p → ∃ a p, ∃ ys : List Str, x = .str a ∧ [v] = [.ref p] ∧ (SqL K H p (ys.map V.str) ∨ SqT K H p (ys.map V.str)) ∧
              (ys.map (·.length)).sum + ys.length * a.length ≤ 16777216 ∧ Q (.str (Txt.join a ys)) H := by
            intro p ws hp fq hl ev
            rw [hxs] at hl
            obtain ⟨e1, e2⟩ := denL_strs hl
            subst e1
            obtain ⟨o1, _⟩ := okS_join os e2 hz
            refine ⟨sOf s, p, ys.map sOf, ex, by rw [ev], hp, ?_, ?_⟩
            · rw [List.map_map, List.length_map, sOf_len]
              have : (List.length ∘ fun l : List Nat => l) = List.length := rfl
              have e3 : ((fun x : Str => x.length) ∘ sOf) = List.length := by funext l; exact sOf_len l
              rw [e3]; exact hz
            · rw [join_eq]
              exact k _ W H [] rl .refl (den_str o1) .nil
          match d0, q with
          | .tup _, q =>
            cases q
            obtain ⟨_, a, ws, ev, hh, hl⟩ := den_tup_inv hd
            exact fin (.inr (SqT.of (rl.sub _ _ hh))) (hl.any (H' := H)) ev
          | .lst oo _, q =>
            cases q
            obtain ⟨a, ws, fq, ev, hh, hl⟩ := rl.lstAt hd
            exact fin (.inl (SqL.of hh)) hl ev
        · cases e
  · cases e
theorem pre_eq (x y : List Nat) : Txt.startswith (sOf x) (sOf y) = y.isPrefixOf x := by
  unfold Txt.startswith Builtin.Str.subAt
  rw [sOf_len, sOf_len, Bool.eq_iff_iff]
  simp only [Nat.zero_add, Bool.and_eq_true, decide_eq_true_eq, beq_iff_eq, List.isPrefixOf_iff_prefix]
  have e : x.toArray.extract 0 y.length = (x.take y.length).toArray := by simp
  constructor
  · rintro ⟨_, h⟩
    rw [e] at h
    have h' : x.take y.length = y := by simpa using h
    rw [← h']; exact List.take_prefix _ _
  · intro h
    refine ⟨h.length_le, ?_⟩
    rw [e, ← List.prefix_iff_eq_take.mp h]
theorem suf_eq (x y : List Nat) : Txt.endswith (sOf x) (sOf y) = y.isSuffixOf x := by
  unfold Txt.endswith Builtin.Str.subAt
  rw [sOf_len, sOf_len, Bool.eq_iff_iff]
  simp only [Nat.zero_add, Bool.and_eq_true, decide_eq_true_eq, beq_iff_eq, List.isSuffixOf_iff_suffix]
  constructor
  · rintro ⟨h1, h⟩
    have e : x.toArray.extract (x.length - y.length) (x.length - y.length + y.length) = (x.drop (x.length - y.length)).toArray := by
      rw [show x.length - y.length + y.length = x.length by omega]
      simp [List.extract_eq_drop_take]
      exact List.take_of_length_le (by simp)
    rw [e] at h
    have h' : x.drop (x.length - y.length) = y := by simpa using h
    rw [← h']; exact List.drop_suffix _ _
  · intro h
    have h1 := h.length_le
    refine ⟨h1, ?_⟩
    have e : x.toArray.extract (x.length - y.length) (x.length - y.length + y.length) = (x.drop (x.length - y.length)).toArray := by
      rw [show x.length - y.length + y.length = x.length by omega]
      simp [List.extract_eq_drop_take]
      exact List.take_of_length_le (by simp)
    rw [e, ← List.suffix_iff_eq_drop.mp h]
def gStarts : D → List D → Option D
  | .str s, [.str t] => some (.bl (t.isPrefixOf s))
  | _, _ => none
def gEnds : D → List D → Option D
  | .str s, [.str t] => some (.bl (t.isSuffixOf s))
  | _, _ => none
theorem md_starts : MtD P gStarts (fun x xs H Q => ∃ a b, x = .str a ∧ xs = [.str b] ∧ Q (.bl (Txt.startswith a b)) H) := by
  constructor
  intro W H O Ms σ z x dx fx vs ds d Q rl hx hb e k
  unfold gStarts at e
  split at e
  · rename_i s t
    cases e
    obtain ⟨v, fp, rfl, hd, _⟩ := bor1 hb
    refine ⟨sOf s, sOf t, (den_str_inv hx).1, by rw [(den_str_inv hd).1], ?_⟩
    rw [pre_eq]
    exact k _ W H [] rl .refl den_bl .nil
  · cases e
theorem md_ends : MtD P gEnds (fun x xs H Q => ∃ a b, x = .str a ∧ xs = [.str b] ∧ Q (.bl (Txt.endswith a b)) H) := by
  constructor
  intro W H O Ms σ z x dx fx vs ds d Q rl hx hb e k
  unfold gEnds at e
  split at e
  · rename_i s t
    cases e
    obtain ⟨v, fp, rfl, hd, _⟩ := bor1 hb
    refine ⟨sOf s, sOf t, (den_str_inv hx).1, by rw [(den_str_inv hd).1], ?_⟩
    rw [suf_eq]
    exact k _ W H [] rl .refl den_bl .nil
  · cases e
end
end G

namespace G
open PySem L2
/-- a def of the text, for every context over this base -/
structure FnG (Pg : Program) (w : World) (mg : Str → Option Value) (base : Heap) (P : Par) (x : Str) (k n : Nat) (f : Fn) : Prop where
  ex : ∃ (fa : Addr) (fd : FuncData) (ps : List Str), FnOk Pg w P.K mg base (L2.CX Pg w) k fa fd ps (spFn P n f) ∧ mg x = some (.ref fa) ∧ PySem.W.keepIn P.K (.ref fa) = true ∧ Binds P.K fd ps []
structure ExcG (Pg : Program) (w : World) (mg : Str → Option Value) (base : Heap) (P : Par) (x : Str) (c fl : String) : Prop where
  ex : ∃ (fI : Addr) (fd : FuncData) (ps : List Str), OexC P.K (P.cl c) ∧ PySem.W.findIn P.K (.ref (P.cl c)) "__init__" = some (some (.ref fI)) ∧ PySem.W.typeIn P.K (.ref fI) = some (.type "function") ∧
    FnOk Pg w P.K mg base (L2.CX Pg w) 1 fI fd ps (spIni (P.cl c) (PySem.Str.ofString fl)) ∧ Binds P.K fd ps [] ∧ mg x = some (.ref (P.cl c))
theorem ini_ok {Pg : Program} {w : World} {K : PySem.W.Frag} {mg : Str → Option Value} {base : Heap} {C f : Addr} {fd : FuncData} {qual fl : Str} {st : Stmt} {p1 p2 p3 p4 : Pos} (F : Fun K "__init__" qual st f fd) (S : FnScope ["self", fl] ["self", fl] (defScope st))
    (hb : defBody st = [.Assign [.Attribute (.Name "self" p1) fl p2] (.Name fl p3) p4]) (h0 : (defScope st).names.lookup ("self" : Str) = some NameKind.local) (h1 : (defScope st).names.lookup fl = some NameKind.local) (T : OexC K C) (hno : PySem.W.findIn K (.ref C) fl = some none)
    (hd1 : (fl == ("__debug__" : Str)) = false) (hc1 : (fl == ("__classdict__" : Str)) = false)
    (hsw : ∀ env : Env, swapsWith (.Name fl p3) (some (.Attribute (.Name "self" p1) fl p2)) p4.line env = pure false) :
    FnOk Pg w K mg base (L2.CX Pg w) 1 f fd ["self", fl] (spIni C fl) := by
  refine F.okX S (fun vs H Q E h => ?_) (fun cdv A outer s H vs Q E hr h => ?_)
  · obtain ⟨a, v, rfl, _⟩ := h; rfl
  · obtain ⟨a, v, rfl, hH, k⟩ := h
    rw [hb]
    refine ⟨_, pss_one (ps_ost (pe_var (i := 0) (x := "self") rfl (.inl h0)) (pe_var (i := 1) (x := fl) rfl (.inl h1) hd1 hc1) (hsw _)), ?_⟩
    exact ⟨v, rfl, .ref a, rfl, a, C, rfl, T, hno, .inl ⟨hH, fun dx n ne => k dx n ne⟩⟩
/-- what the law's function promises -/
def spLaw (K : PySem.W.Frag) : Sp := fun vs H Q _ => ∃ (a : Addr) (ns : List Int), vs = [.ref a] ∧ SqL K H a (ns.map V.int) ∧ ns.length ≤ 63 ∧ ∀ H', Q (.bl true) H'
theorem law_imp {Pg : Program} {w : World} {mg : Str → Option Value} {base : Heap} {P : Par} {k : Nat} {f : Addr} {fd : FuncData} {ps : List Str} {F : Fn} (h : FnOk Pg w P.K mg base (L2.CX Pg w) k f fd ps (spFn P 1 F)) (ht : ∀ ns : List Int, ns.length ≤ 63 → ∃ s, F [.obj 0] [.scr ns] = .ok (.bl true) s) :
    FnOk Pg w P.K mg base (L2.CX Pg w) k f fd ps (spLaw P.K) := by
  refine h.imp fun vs H Q E hq => ?_
  obtain ⟨a, ns, rfl, hs, hl, q⟩ := hq
  obtain ⟨s, e⟩ := ht ns hl
  refine ⟨[.obj 0], [.scr ns], ⟨H, [a]⟩, [], rfl, ?_, fun _ _ e => e, ⟨[], [], rfl, ⟨rfl, hs⟩, rfl⟩, List.nodup_nil, by simp, ?_⟩
  · refine DenL.cons0 ?_ DenL.nil
    simp only [Den]
    exact ⟨trivial, a, rfl, rfl⟩
  · rw [e]
    intro v W' H' M' fp r st
    rw [(den_blI r.den).1]
    exact q H'
theorem law_walk {l : PySem.W.OpenLaw} {q : Program} {loose : List Str} {XP : (Str → Option Value) → Heap → Prop} {YP : World → Heap → Prop} {d : DefRec} {K : Params → PySem.W.Frag} {k : Nat} (hn : l.most = some 63) (hdf : d.params.defaults = []) (hr : Room k callerA)
    (hY : ∀ (w : World) (h : Heap), YP w h → (K w.params).In h)
    (F : ∀ (w : World) (mg : Str → Option Value) (fa : Addr) (h : Heap), (K w.params).In h → h.Ns mainGlobals mg → mg d.name = some (.ref fa) →
      ∃ fd : FuncData, (∀ (s : Shared) (u : Value), BindsTo s fd ⟨[u], []⟩ [("_law_script", u)]) ∧ ∀ base : Heap, (K w.params).In base → base.Ns mainGlobals mg → FnOk l.prog w (K w.params) mg base (L2.CX l.prog w) k fa fd ["_law_script"] (spLaw (K w.params))) :
    PySem.W.WalkO q loose XP YP l.row.toRowW d [] (fun f vs => PySem.call f vs) :=
  L2.walk_of (n := 63) (k := k) (x := "_law_script") (CX := fun w => L2.CX l.prog w) (sp := fun w => spLaw (K w.params)) hn (by decide) hdf hr hY F (fun _ _ a ns hl _ hS => ⟨a, ns, rfl, hS, hl, fun _ => rfl⟩) fun _ _ _ _ _ z => by
    obtain ⟨_, _, _, _, _, _, _, _, _, _, _, _, z⟩ := z
    exact z
end G
namespace G
open PySem L2
/-- more turns than any while of the program makes -/
def FUEL : Nat := 1000000000
section
variable {Pg : Program} {w : World} {K : PySem.W.Frag} {mg : Str → Option Value} {base : Heap} {N : List Str} {qual : Str} {scope : Scope} {f : Addr} {cd : Value} {A : Around} {outer : List Env} {s : Shared} {H : Hp} {E : XK}
theorem tk_def : Takes (cxOf (L2.CX Pg w) Pg w K mg base N qual scope f cd A outer s H E) (fun cls d _ H => E cls d H) := takes_of rfl rfl rfl rfl
theorem po_def : PassesOwn (model Pg w) (cxOf (L2.CX Pg w) Pg w K mg base N qual scope f cd A outer s H E).A (cxOf (L2.CX Pg w) Pg w K mg base N qual scope f cd A outer s H E).env (cxOf (L2.CX Pg w) Pg w K mg base N qual scope f cd A outer s H E).xe := passes_of rfl
end
end G

namespace G
open PySem L2
abbrev EX := String → List D → Z → Prop
abbrev NoE : EX := fun _ _ _ => False
def WpD {α : Type} (m : M α) (z : Z) (Q : α → Z → Prop) (E : EX) : Prop := match m z with
  | .ok a z' => Q a z'
  | .exc c fs z' => E c fs z'
  | .stk => False
/-- a structure, so that nothing runs the program by chance -/
structure Wp {α : Type} (m : M α) (z : Z) (Q : α → Z → Prop) (E : EX) : Prop where
  d : WpD m z Q E
theorem wp_eq {α : Type} {m : M α} {z : Z} {Q : α → Z → Prop} {E : EX} : Wp m z Q E = WpD m z Q E := propext ⟨fun h => h.d, fun h => ⟨h⟩⟩
def WpFD (r : RF) (Q : D → List Ob → Prop) (E : String → List D → List Ob → Prop) : Prop := match r with
  | .ok d s => Q d s
  | .exc c fs s => E c fs s
  | .stk => False
structure WpF (r : RF) (Q : D → List Ob → Prop) (E : String → List D → List Ob → Prop) : Prop where
  d : WpFD r Q E
theorem wpF_eq {r : RF} {Q : D → List Ob → Prop} {E : String → List D → List Ob → Prop} : WpF r Q E = WpFD r Q E := propext ⟨fun h => h.d, fun h => ⟨h⟩⟩
/-- what a statement's end is followed by -/
def kSeq (F : M Fl) (Q : Fl → Z → Prop) (E : EX) : Fl → Z → Prop
  | .nx, z => Wp F z Q E
  | f, z => Q f z
def kBody (Q : Fl → Z → Prop) (Go : Z → Prop) : Fl → Z → Prop
  | .nx, z => Go z
  | .ct, z => Go z
  | .bk, z => Q .nx z
  | .rt d, z => Q (.rt d) z
@[simp] theorem kSeq_nx {F Q E z} : kSeq F Q E .nx z = Wp F z Q E := rfl
@[simp] theorem kSeq_rt {F Q E z d} : kSeq F Q E (.rt d) z = Q (.rt d) z := rfl
@[simp] theorem kSeq_bk {F Q E z} : kSeq F Q E .bk z = Q .bk z := rfl
@[simp] theorem kSeq_ct {F Q E z} : kSeq F Q E .ct z = Q .ct z := rfl
@[simp] theorem kBody_nx {Q G z} : kBody Q G .nx z = G z := rfl
@[simp] theorem kBody_ct {Q G z} : kBody Q G .ct z = G z := rfl
@[simp] theorem kBody_bk {Q G z} : kBody Q G .bk z = Q .nx z := rfl
@[simp] theorem kBody_rt {Q G z d} : kBody Q G (.rt d) z = Q (.rt d) z := rfl
section
variable {α β : Type} {Q : α → Z → Prop} {E : EX} {z : Z}
theorem Wp.mono {m : M α} {Q' : α → Z → Prop} {E' : EX} (h : Wp m z Q E) (k : ∀ a z, Q a z → Q' a z) (ke : ∀ c fs z, E c fs z → E' c fs z) : Wp m z Q' E' := by
  rw [wp_eq] at *
  unfold WpD at *
  split at h
  · exact k _ _ h
  · exact ke _ _ _ h
  · exact h
theorem Wp.q {m : M α} {Q' : α → Z → Prop} (h : Wp m z Q E) (k : ∀ a z, Q a z → Q' a z) : Wp m z Q' E := h.mono k fun _ _ _ e => e
theorem Wp.ok {m : M α} (h : Wp m z Q NoE) : ∃ a z', m z = .ok a z' ∧ Q a z' := by
  rw [wp_eq] at h
  unfold WpD at h
  split at h
  · exact ⟨_, _, by assumption, h⟩
  · exact h.elim
  · exact h.elim
theorem Wp.of {m : M α} {a : α} {z' : Z} (e : m z = .ok a z') (h : Q a z') : Wp m z Q E := by
  rw [wp_eq]; unfold WpD; rw [e]; exact h
@[simp] theorem wp_bnd {m : M β} {f : β → M α} : Wp (bnd m f) z Q E = Wp m z (fun a z' => Wp (f a) z' Q E) E := by
  simp only [wp_eq]
  unfold WpD bnd
  cases m z <;> rfl
@[simp] theorem wp_ret {a : α} : Wp (ret a) z Q E = Q a z := by rw [wp_eq]; rfl
theorem wp_lift {o : Option α} : Wp (lift o) z Q E = ∃ d, o = some d ∧ Q d z := by
  cases o <;> simp [wp_eq, WpD, lift]
@[simp] theorem wp_lift_some {a : α} : Wp (lift (some a)) z Q E = Q a z := by rw [wp_eq]; rfl
@[simp] theorem wp_lift_none : Wp (lift (none : Option α)) z Q E = False := by rw [wp_eq]; rfl
@[simp] theorem wp_lift_ite {c : Prop} [Decidable c] {a : α} : Wp (lift (if c then some a else none)) z Q E = (c ∧ Q a z) := by
  by_cases h : c <;> simp [h]
@[simp] theorem wp_stk : Wp (fun _ => (.stk : R α)) z Q E = False := by rw [wp_eq]; rfl
@[simp] theorem wp_ite {b : Prop} [Decidable b] {m1 m2 : M α} : Wp (if b then m1 else m2) z Q E = if b then Wp m1 z Q E else Wp m2 z Q E := by
  by_cases h : b <;> simp [h]
@[simp] theorem wp_nox {m : M α} : Wp (nox m) z Q E = Wp m z Q NoE := by
  simp only [wp_eq]
  unfold WpD nox
  cases m z <;> rfl
@[simp] theorem wp_bndT {o : Z → Option Z} {k : M α} : Wp (bndT o k) z Q E = ∃ z', o z = some z' ∧ Wp k z' Q E := by
  simp only [wp_eq]
  unfold bndT WpD
  cases h : o z with
  | none => simp [h]
  | some z' => simp [h]
end
section
variable {E : EX} {z : Z}
@[simp] theorem wp_fC {d : D} {Q} : Wp (fC d) z Q E = Q d z := by rw [wp_eq]; rfl
@[simp] theorem wp_fVB {i : Nat} {e : List (Option D)} {s} {Q} : Wp (fVB i) ⟨e, s⟩ Q E = ∃ d, e[i]? = some (some d) ∧ Q d ⟨e, s⟩ := by
  simp only [wp_eq]
  unfold fVB WpD
  simp only
  cases h : e[i]? with
  | none => simp
  | some o => cases o <;> simp
@[simp] theorem wp_fV {i : Nat} {e : List (Option D)} {s} {Q} : Wp (fV i) ⟨e, s⟩ Q E = ∃ d, e[i]? = some (some d) ∧ Q (frz d) ⟨e.set i (some (frz d)), s⟩ := by
  simp only [wp_eq]
  unfold fV WpD
  simp only
  cases h : e[i]? with
  | none => simp
  | some o =>
    cases o with
    | none => simp
    | some d =>
      match d with
      | .non | .bl _ | .int _ | .str _ | .tup _ | .lst false _ | .dic false _ _ | .obj _ | .exc _ _ => simp [set_self h]
      | .lst true _ | .dic true _ _ => simp
@[simp] theorem wp_fTest {F : M D} {Q} : Wp (fTest F) z Q E = Wp F z (fun d z' => Wp (lift (asB d)) z' Q E) E := by unfold fTest; rw [wp_bnd]
@[simp] theorem wp_fBin {g} {Fa Fb : M D} {Q} : Wp (fBin g Fa Fb) z Q E = Wp Fa z (fun x z1 => Wp Fb z1 (fun y z2 => Wp (lift (g x y)) z2 Q E) E) E := by unfold fBin; simp
@[simp] theorem wp_fUn {g} {Fa : M D} {Q} : Wp (fUn g Fa) z Q E = Wp Fa z (fun x z1 => Wp (lift (g x)) z1 Q E) E := by unfold fUn; simp
@[simp] theorem wp_fTru {F : M D} {Q} : Wp (fTru F) z Q E = Wp F z (fun d z1 => Wp (lift (tru d)) z1 Q E) E := by unfold fTru; simp
@[simp] theorem wp_fNotT {F : M Bool} {Q} : Wp (fNotT F) z Q E = Wp F z (fun b z1 => Q (!b) z1) E := by unfold fNotT; simp
@[simp] theorem wp_fAndT {F G : M Bool} {Q} : Wp (fAndT F G) z Q E = Wp F z (fun b z1 => if b = true then Wp G z1 Q E else Q false z1) E := by unfold fAndT; simp
@[simp] theorem wp_fOrT {F G : M Bool} {Q} : Wp (fOrT F G) z Q E = Wp F z (fun b z1 => if b = true then Q true z1 else Wp G z1 Q E) E := by unfold fOrT; simp
@[simp] theorem wp_fNotV {F : M D} {Q} : Wp (fNotV F) z Q E = Wp F z (fun d z1 => Wp (lift ((tru d).map fun b => .bl (!b))) z1 Q E) E := by unfold fNotV; simp
@[simp] theorem wp_fAndV {F G : M D} {Q} : Wp (fAndV F G) z Q E = Wp F z (fun d z1 => Wp (lift (tru d)) z1 (fun b z2 => if b = true then Wp G z2 Q E else Q d z2) E) E := by unfold fAndV; simp
@[simp] theorem wp_fOrV {F G : M D} {Q} : Wp (fOrV F G) z Q E = Wp F z (fun d z1 => Wp (lift (tru d)) z1 (fun b z2 => if b = true then Q d z2 else Wp G z2 Q E) E) E := by unfold fOrV; simp
@[simp] theorem wp_fIf {α : Type} {T : M Bool} {A B : M α} {Q} : Wp (fIf T A B) z Q E = Wp T z (fun b z1 => if b = true then Wp A z1 Q E else Wp B z1 Q E) E := by unfold fIf; simp
@[simp] theorem wp_fNil {Q} : Wp fNil z Q E = Q [] z := by rw [wp_eq]; rfl
@[simp] theorem wp_fCons {F : M D} {Fs} {Q} : Wp (fCons F Fs) z Q E = Wp F z (fun d z1 => Wp Fs z1 (fun ds z2 => Q (d :: ds) z2) E) E := by unfold fCons; simp
@[simp] theorem wp_fTup {Fs} {Q} : Wp (fTup Fs) z Q E = Wp Fs z (fun ds z1 => ds.length ≤ big ∧ Q (.tup (ds.map frz)) z1) E := by
  unfold fTup
  rw [wp_bnd]; congr; funext ds z1
  by_cases h : ds.length ≤ big <;> simp [h]
@[simp] theorem wp_fLst {Fs} {Q} : Wp (fLst Fs) z Q E = Wp Fs z (fun ds z1 => ds.length ≤ big ∧ Q (.lst true ds) z1) E := by
  unfold fLst
  rw [wp_bnd]; congr; funext ds z1
  by_cases h : ds.length ≤ big <;> simp [h]
@[simp] theorem wp_fSeq {A B : M Fl} {Q} : Wp (fSeq A B) z Q E = Wp A z (kSeq B Q E) E := by
  unfold fSeq; rw [wp_bnd]; congr; funext f z1; cases f <;> simp [kSeq]
@[simp] theorem wp_fDrop {F : M D} {Q} : Wp (fDrop F) z Q E = Wp F z (fun _ z1 => Q .nx z1) E := by unfold fDrop; simp
@[simp] theorem wp_fRet {F : M D} {Q} : Wp (fRet F) z Q E = Wp F z (fun d z1 => Q (.rt d) z1) E := by unfold fRet; simp
@[simp] theorem wp_fRetV {i : Nat} {e : List (Option D)} {s} {Q} : Wp (fRetV i) ⟨e, s⟩ Q E = ∃ d, e[i]? = some (some d) ∧ Q (.rt d) ⟨e, s⟩ := by
  simp only [wp_eq]
  unfold fRetV WpD
  simp only
  cases h : e[i]? with
  | none => simp
  | some o => cases o <;> simp
@[simp] theorem wp_setE {i : Nat} {d : D} {e : List (Option D)} {s} {Q} : Wp (setE i d) ⟨e, s⟩ Q E = (i < e.length ∧ Q () ⟨e.set i (some d), s⟩) := by
  simp only [wp_eq]
  unfold setE WpD
  by_cases h : i < e.length <;> simp [h]
@[simp] theorem wp_fSet {i : Nat} {F : M D} {Q} : Wp (fSet i F) z Q E = Wp F z (fun d z1 => Wp (setE i d) z1 (fun _ z2 => Q .nx z2) E) E := by unfold fSet; simp
@[simp] theorem tName_ok {i : Nat} {d : D} {e : List (Option D)} {s} : tName i d ⟨e, s⟩ = if i < e.length then some ⟨e.set i (some d), s⟩ else none := rfl
@[simp] theorem wp_fIx {Fa Fb : M D} {Q} : Wp (fIx Fa Fb) z Q E = Wp Fa z (fun x z1 => Wp Fb z1 (fun y z2 => Wp (lift (dIxE x y)) z2 Q E) E) E := by unfold fIx; simp
@[simp] theorem wp_fIxB {Fa Fb : M D} {Q} : Wp (fIxB Fa Fb) z Q E = Wp Fa z (fun x z1 => Wp Fb z1 (fun y z2 => Wp (lift (dIx x y)) z2 Q E) E) E := by unfold fIxB; simp
@[simp] theorem wp_fNoPart {Q} : Wp fNoPart z Q E = Q none z := by rw [wp_eq]; rfl
@[simp] theorem wp_fPart {F : M D} {Q} : Wp (fPart F) z Q E = Wp F z (fun d z1 => Wp (lift (asI d)) z1 Q E) E := by unfold fPart; simp
@[simp] theorem asI_int {i : Int} : asI (.int i) = some (some i) := rfl
@[simp] theorem wp_fCut {F : M D} {A B} {Q} : Wp (fCut F A B) z Q E = Wp F z (fun x z1 => Wp A z1 (fun l z2 => Wp B z2 (fun u z3 => Wp (lift (dCut x l u)) z3 Q E) E) E) E := by unfold fCut; simp
@[simp] theorem wp_fCB {g} {Fs} {Q} : Wp (fCB g Fs) z Q E = Wp Fs z (fun ds z1 => Wp (lift (g ds)) z1 Q E) E := by unfold fCB; simp
@[simp] theorem wp_fRange {g} {Fs} {Q} : Wp (fRange g Fs) z Q E = Wp Fs z (fun ds z1 => Wp (lift (g ds)) z1 Q E) E := by unfold fRange; simp
@[simp] theorem wp_fWalk {F : M D} {Q} : Wp (fWalk F) z Q E = Wp F z (fun d z1 => Wp (lift (walked d)) z1 Q E) E := by unfold fWalk; simp
@[simp] theorem wp_fFor {Fi} {T} {B} {Q} : Wp (fFor Fi T B) z Q E = Wp Fi z (fun ds z1 => Wp (forL T B ds) z1 Q E) E := by unfold fFor; simp
@[simp] theorem wp_fRaise {c : String} {Fs} {Q : Fl → Z → Prop} : Wp (fRaise c Fs) z Q E = Wp Fs z (fun ds z1 => E c (ds.map frz) z1) E := by
  unfold fRaise; rw [wp_bnd]; congr; funext ds z1; rw [wp_eq]; rfl
@[simp] theorem wp_fCall {f : Fn} {Fs} {Q} : Wp (fCall f Fs) z Q E = Wp Fs z (fun ds z1 => WpF (f (ds.map frz) z1.st) (fun d s => Q d ⟨z1.env, s⟩) (fun c fs s => E c fs ⟨z1.env, s⟩)) E := by
  unfold fCall; rw [wp_bnd]; congr; funext ds z1
  simp only [wp_eq, wpF_eq]
  unfold WpD WpFD
  simp only
  cases f (ds.map frz) z1.st <;> rfl
@[simp] theorem wp_fIxO {Fa Fb : M D} {Q} : Wp (fIxO Fa Fb) z Q E = Wp Fa z (fun x z1 => Wp Fb z1 (fun i z2 => Wp (lift (ixO z2.st x i)) z2 Q E) E) E := by
  unfold fIxO; rw [wp_bnd]; congr; funext x z1; rw [wp_bnd]; congr; funext i z2; simp only [wp_eq]; rfl
@[simp] theorem wp_fSetO {F Fa Fb : M D} {Q} : Wp (fSetO F Fa Fb) z Q E = Wp F z (fun d z1 => Wp Fa z1 (fun x z2 => Wp Fb z2 (fun i z3 => Wp (lift (setO z3.st x i d)) z3 (fun s z4 => Q .nx ⟨z4.env, s⟩) E) E) E) E := by
  unfold fSetO; rw [wp_bnd]; congr; funext d z1; rw [wp_bnd]; congr; funext x z2; rw [wp_bnd]; congr; funext i z3
  simp only [wp_eq]
  unfold WpD
  simp only
  cases setO z3.st x i d <;> rfl
@[simp] theorem wp_fMeth {g} {F : M D} {Fs} {Q} : Wp (fMeth g F Fs) z Q E = Wp F z (fun x z1 => isStr x = true ∧ Wp Fs z1 (fun ds z2 => Wp (lift (g x ds)) z2 Q E) E) E := by
  unfold fMeth; rw [wp_bnd]; congr; funext x z1
  by_cases h : isStr x = true <;> simp [h]
@[simp] theorem wp_fChain {g1 g2} {Fa Fb Fc : M D} {Q} : Wp (fChain g1 g2 Fa Fb Fc) z Q E = Wp Fa z (fun x z1 => Wp Fb z1 (fun y z2 => Wp (lift (g1 x y)) z2 (fun r z3 => Wp (lift (asB r)) z3 (fun t z4 => if t = true then Wp Fc z4 (fun w z5 => Wp (lift (g2 y w)) z5 Q E) E else Q (.bl false) z4) E) E) E) E := by
  unfold fChain; simp
end
/-! ### loops -/
section
variable {E : EX} {Q : Fl → Z → Prop} {T : M Bool} {B : M Fl}
theorem wp_while (I : Nat → Z → Prop) (h : ∀ k z, I k z → Wp T z (fun b z1 => if b = true then Wp B z1 (kBody Q fun z2 => ∃ j, j < k ∧ I j z2) E else Q .nx z1) E) :
    ∀ {n k : Nat} {z : Z}, k < n → I k z → Wp (whileN T B n) z Q E
  | 0, k, z, hk, _ => absurd hk (Nat.not_lt_zero _)
  | n + 1, k, z, hk, hi => by
    unfold whileN
    rw [wp_bnd]
    refine (h k z hi).q fun b z1 q => ?_
    cases b with
    | false => simpa using q
    | true =>
      simp only [if_true] at q ⊢
      rw [wp_bnd]
      refine q.q fun f z2 r => ?_
      cases f with
      | nx => obtain ⟨j, hj, hi⟩ := r; exact wp_while I h (by omega) hi
      | ct => obtain ⟨j, hj, hi⟩ := r; exact wp_while I h (by omega) hi
      | bk => exact (Eq.mpr wp_ret) r
      | rt d => exact (Eq.mpr wp_ret) r
theorem wp_for {Tt : Tg} (I : List D → Z → Prop) (h : ∀ d ds z, I (d :: ds) z → ∃ z1, Tt d z = some z1 ∧ Wp B z1 (kBody Q fun z2 => I ds z2) E) (h0 : ∀ z, I [] z → Q .nx z) :
    ∀ {ds : List D} {z : Z}, I ds z → Wp (forL Tt B ds) z Q E
  | [], z, hi => by unfold forL; exact (Eq.mpr wp_ret) (h0 z hi)
  | d :: ds, z, hi => by
    obtain ⟨z1, e, w⟩ := h d ds z hi
    unfold forL
    rw [wp_bndT]
    refine ⟨z1, e, ?_⟩
    rw [wp_bnd]
    refine w.q fun f z2 r => ?_
    cases f with
    | nx => exact wp_for I h h0 r
    | ct => exact wp_for I h h0 r
    | bk => exact (Eq.mpr wp_ret) r
    | rt d => exact (Eq.mpr wp_ret) r
/-- over a mapped list: the invariant tells how many are gone -/
theorem wp_forM {α : Type} {Tt : Tg} {xs : List α} {f : α → D} (I : Nat → Z → Prop) {z : Z} (hi : I 0 z) (h : ∀ k z (hk : k < xs.length), I k z → ∃ z1, Tt (f xs[k]) z = some z1 ∧ Wp B z1 (kBody Q fun z2 => I (k + 1) z2) E) (h0 : ∀ z, I xs.length z → Q .nx z) :
    Wp (forL Tt B (xs.map f)) z Q E := by
  have hd := List.drop_zero (l := xs)
  refine wp_for (fun ds z => ∃ k, k ≤ xs.length ∧ ds = (xs.drop k).map f ∧ I k z) ?_ ?_ ⟨0, Nat.zero_le _, by simp, hi⟩
  · rintro d ds z ⟨k, hk, e, hi⟩
    by_cases hlt : k < xs.length
    · rw [List.drop_eq_getElem_cons hlt] at e
      simp only [List.map_cons, List.cons.injEq] at e
      obtain ⟨rfl, rfl⟩ := e
      obtain ⟨z1, e, w⟩ := h k z hlt hi
      refine ⟨z1, e, w.q fun f z2 r => ?_⟩
      cases f with
      | nx => exact ⟨k + 1, hlt, rfl, r⟩
      | ct => exact ⟨k + 1, hlt, rfl, r⟩
      | bk => exact r
      | rt d => exact r
    · rw [List.drop_of_length_le (by omega)] at e; cases e
  · rintro z ⟨k, hk, e, hi⟩
    have : k = xs.length := by
      have := congrArg List.length e
      simp at this; omega
    subst this; exact h0 z hi
theorem wp_forR {Tt : Tg} {n : Nat} {f : Nat → D} (I : Nat → Z → Prop) {z : Z} (hi : I 0 z) (h : ∀ k z, k < n → I k z → ∃ z1, Tt (f k) z = some z1 ∧ Wp B z1 (kBody Q fun z2 => I (k + 1) z2) E) (h0 : ∀ z, I n z → Q .nx z) :
    Wp (forL Tt B ((List.range n).map f)) z Q E := by
  refine wp_forM I hi (fun k z hk hi => ?_) (by simpa using h0)
  rw [List.getElem_range]
  exact h k z (by simpa using hk) hi
end
/-! ### comprehensions over one name -/
section
variable {E : EX} {Q : D → Z → Prop} {C : M Bool} {F : M D} {v : Nat}
theorem compL_wp {e : List (Option D)} (hv : v < e.length) {xs : List D} (hb : xs.length ≤ big) (I : Nat → List D → List Ob → Prop)
    (h : ∀ k acc s (hk : k < xs.length), I k acc s → Wp C ⟨e.set v (some xs[k]), s⟩ (fun b z1 => z1.env = e.set v (some xs[k]) ∧ if b = true then Wp F z1 (fun y z2 => z2.env = z1.env ∧ I (k + 1) (acc ++ [y]) z2.st) NoE else I (k + 1) acc z1.st) NoE) :
    ∀ (k : Nat) (acc : List D) (e1 : List (Option D)) (s : List Ob), k ≤ xs.length → acc.length ≤ k → e1.set v none = e.set v none → I k acc s → ∃ acc' e2 s', compL [v] (tName v) C F (xs.drop k) acc ⟨e1, s⟩ = .ok acc' ⟨e2, s'⟩ ∧ e2.set v none = e.set v none ∧ I xs.length acc' s' := by
  intro k acc e1 s hk ha he hi
  by_cases hlt : k < xs.length
  · rw [List.drop_eq_getElem_cons hlt]
    unfold compL
    have e3 : (wipeE e1 [v]).set v (some xs[k]) = e.set v (some xs[k]) := by
      show (e1.set v none).set v _ = _
      rw [he, List.set_set]
    have hl : v < (wipeE e1 [v]).length := by
      rw [wipeE_len]
      have := congrArg List.length he
      simp at this; omega
    have hT : tName v xs[k] ⟨wipeE e1 [v], s⟩ = some ⟨e.set v (some xs[k]), s⟩ := by
      rw [tName_ok, if_pos hl, e3]
    have w := h k acc s hlt hi
    obtain ⟨b, z1, eC, ez, w⟩ := w.ok
    simp only [bndT, hT, bnd, nox, eC]
    cases b with
    | true =>
      simp only [if_true] at w ⊢
      obtain ⟨y, z2, eF, ez2, hi2⟩ := w.ok
      simp only [bnd, nox, eF]
      rw [if_pos (by omega)]
      have := compL_wp hv hb I h (k + 1) (acc ++ [y]) z2.env z2.st hlt (by simp; omega) (by rw [ez2, ez, List.set_set]) hi2
      simpa using this
    | false =>
      simp only [Bool.false_eq_true, if_false] at w ⊢
      have := compL_wp hv hb I h (k + 1) acc z1.env z1.st hlt (by omega) (by rw [ez, List.set_set]) w
      simpa using this
  · rw [List.drop_of_length_le (by omega)]
    have : k = xs.length := by omega
    subst this
    exact ⟨acc, e1, s, rfl, he, hi⟩
termination_by k => xs.length - k
theorem set_back {e e2 : List (Option D)} (h : e2.set v none = e.set v none) : e2.set v (e[v]?.join) = e := by
  have : (e2.set v none).set v (e[v]?.join) = (e.set v none).set v (e[v]?.join) := by rw [h]
  rw [List.set_set, List.set_set] at this
  rw [this]
  by_cases hv : v < e.length
  · rw [List.getElem?_eq_getElem hv]; simp
  · rw [List.set_eq_of_length_le (by omega)]
/-- the loop of a comprehension over one name, cases by an invariant -/
theorem wp_comp {Fi : M (List D)} {z : Z} (h : Wp Fi z (fun xs z0 => fixedAt z0.env [v] = true ∧ v < z0.env.length ∧ xs.length ≤ big ∧ ∃ I : Nat → List D → List Ob → Prop, I 0 [] z0.st ∧
    (∀ k acc s (hk : k < xs.length), I k acc s → Wp C ⟨z0.env.set v (some xs[k]), s⟩ (fun b z1 => z1.env = z0.env.set v (some xs[k]) ∧ if b = true then Wp F z1 (fun y z2 => z2.env = z1.env ∧ I (k + 1) (acc ++ [y]) z2.st) NoE else I (k + 1) acc z1.st) NoE) ∧
    ∀ acc s, I xs.length acc s → Q (.lst true acc) ⟨z0.env, s⟩) E) : Wp (fComp [v] Fi (tName v) C F) z Q E := by
  unfold fComp
  rw [wp_bnd]
  refine h.q fun xs z0 ⟨hf, hv, hb, I, hi, hs, hq⟩ => ?_
  obtain ⟨acc, e2, s', e, he, hi2⟩ := compL_wp hv hb I hs 0 [] z0.env z0.st (Nat.zero_le _) (Nat.le_refl _) rfl hi
  rw [List.drop_zero] at e
  have e' : compL [v] (tName v) C F xs [] z0 = .ok acc ⟨e2, s'⟩ := e
  simp only [wp_eq]
  unfold WpD
  simp only [hf, if_true, e']
  show Q (.lst true acc) ⟨e2.set v (z0.env[v]?.join), s'⟩
  rw [set_back he]
  exact hq acc s' hi2
end
/-! ### functions -/
theorem fn_wp {np n : Nat} {body : M Fl} {ds : List D} {s : List Ob} {Q : D → List Ob → Prop} {E : String → List D → List Ob → Prop} (hl : ds.length = np)
    (h : Wp body ⟨ds.map some ++ List.replicate (n - np) none, s⟩ (fun f z => match f with | .rt d => Q d z.st | .nx => Q .non z.st | _ => False) (fun c fs z => E c fs z.st)) : WpF (fnOf np n body ds s) Q E := by
  rw [wpF_eq]
  unfold fnOf WpFD
  rw [if_pos hl]
  rw [wp_eq] at h
  unfold WpD at h
  split at h
  · rename_i f z e
    rw [e]
    cases f with
    | rt d => exact h
    | nx => exact h
    | bk => exact h.elim
    | ct => exact h.elim
  · rename_i e; rw [e]; exact h
  · exact h.elim
theorem WpF.ok {r : RF} {Q : D → List Ob → Prop} (h : WpF r Q fun _ _ _ => False) : ∃ d s, r = .ok d s ∧ Q d s := by
  rw [wpF_eq] at h
  unfold WpFD at h
  split at h
  · exact ⟨_, _, rfl, h⟩
  · exact h.elim
  · exact h.elim
theorem WpF.eq {r : RF} {d0 : D} {s0 : List Ob} (h : WpF r (fun d s => d = d0 ∧ s = s0) fun _ _ _ => False) : r = .ok d0 s0 := by
  obtain ⟨d, s, e, rfl, rfl⟩ := h.ok; exact e
theorem WpF.mono {r : RF} {Q Q' : D → List Ob → Prop} {E E' : String → List D → List Ob → Prop} (h : WpF r Q E) (k : ∀ d s, Q d s → Q' d s) (ke : ∀ c fs s, E c fs s → E' c fs s) : WpF r Q' E' := by
  rw [wpF_eq] at *
  unfold WpFD at *
  split at h
  · exact k _ _ h
  · exact ke _ _ _ h
  · exact h
theorem WpF.q {r : RF} {Q Q' : D → List Ob → Prop} {E : String → List D → List Ob → Prop} (h : WpF r Q E) (k : ∀ d s, Q d s → Q' d s) : WpF r Q' E := h.mono k fun _ _ _ e => e
@[simp] theorem wpF_ok {d : D} {s : List Ob} {Q : D → List Ob → Prop} {E : String → List D → List Ob → Prop} : WpF (.ok d s) Q E = Q d s := by rw [wpF_eq]; rfl
@[simp] theorem wpF_exc {c : String} {fs : List D} {s : List Ob} {Q : D → List Ob → Prop} {E : String → List D → List Ob → Prop} : WpF (.exc c fs s) Q E = E c fs s := by rw [wpF_eq]; rfl
end G

namespace G
open PySem L2
@[simp] theorem asB_bl' {b : Bool} : asB (.bl b) = some b := rfl
@[simp] theorem dAdd_int {i j : Int} : dAdd (.int i) (.int j) = some (.int (i + j)) := rfl
@[simp] theorem dAdd_str {a b} : dAdd (.str a) (.str b) = if a.length + b.length ≤ big then some (.str (a ++ b)) else none := rfl
@[simp] theorem dAdd_tup {a b} : dAdd (.tup a) (.tup b) = if a.length + b.length ≤ big then some (.tup (a ++ b)) else none := rfl
@[simp] theorem dAdd_lst {o u a b} : dAdd (.lst o a) (.lst u b) = if a.length + b.length ≤ big ∧ (o = true → a.all notOwn = true) ∧ (u = true → b.all notOwn = true) then some (.lst true (a ++ b)) else none := rfl
@[simp] theorem dSub_int {i j : Int} : dSub (.int i) (.int j) = some (.int (i - j)) := rfl
@[simp] theorem dMul_int {i j : Int} : dMul (.int i) (.int j) = if (-18446744073709551616 < i ∧ i < 18446744073709551616) ∨ (-18446744073709551616 < j ∧ j < 18446744073709551616) then some (.int (i * j)) else none := rfl
@[simp] theorem dDiv_int {i j : Int} : dDiv (.int i) (.int j) = if 0 < j ∧ j < 1073741824 then some (.int (i / j)) else none := rfl
@[simp] theorem dMod_int {i j : Int} : dMod (.int i) (.int j) = if 0 < j then some (.int (i % j)) else none := rfl
@[simp] theorem dPow_int {i j : Int} : dPow (.int i) (.int j) = if 0 ≤ j ∧ j ≤ 1000000 ∧ i.natAbs < 18446744073709551616 then some (.int (i ^ j.toNat)) else none := rfl
@[simp] theorem dNeg_int {i : Int} : dNeg (.int i) = some (.int (-i)) := rfl
@[simp] theorem dLt_int {i j : Int} : dLt (.int i) (.int j) = some (.bl (decide (i < j))) := rfl
@[simp] theorem dLe_int {i j : Int} : dLe (.int i) (.int j) = some (.bl (decide (i ≤ j))) := rfl
@[simp] theorem dGt_int {i j : Int} : dGt (.int i) (.int j) = some (.bl (decide (j < i))) := rfl
@[simp] theorem dGe_int {i j : Int} : dGe (.int i) (.int j) = some (.bl (decide (j ≤ i))) := rfl
@[simp] theorem dLt_str {i j} : dLt (.str i) (.str j) = some (.bl (sLt i j)) := rfl
@[simp] theorem iLt_int {i j : Int} : iLt (.int i) (.int j) = some (.bl (decide (i < j))) := rfl
@[simp] theorem iLe_int {i j : Int} : iLe (.int i) (.int j) = some (.bl (decide (i ≤ j))) := rfl
@[simp] theorem gLen_tup {xs} : gLen [.tup xs] = some (.int xs.length) := rfl
@[simp] theorem gLen_str {xs} : gLen [.str xs] = some (.int xs.length) := rfl
@[simp] theorem gLen_lst {o xs} : gLen [.lst o xs] = some (.int xs.length) := rfl
@[simp] theorem gAbs_int {i : Int} : gAbs [.int i] = some (.int (if i < 0 then -i else i)) := rfl
@[simp] theorem gInt_int {i : Int} : gInt [.int i] = some (.int i) := rfl
@[simp] theorem gMax2_int {i j : Int} : gMax2 [.int i, .int j] = some (.int (max i j)) := by
  show some (D.int (if j > i then j else i)) = _
  congr 2; split <;> omega
@[simp] theorem gMin2_int {i j : Int} : gMin2 [.int i, .int j] = some (.int (min i j)) := by
  show some (D.int (if j < i then j else i)) = _
  congr 2; split <;> omega
@[simp] theorem boolsD_bl : ∀ xs : List Bool, boolsD (xs.map .bl) = some xs
  | [] => rfl
  | x :: xs => by simp [boolsD, boolsD_bl xs]
@[simp] theorem intsD_int : ∀ xs : List Int, intsD (xs.map .int) = some xs
  | [] => rfl
  | x :: xs => by simp [intsD, intsD_int xs]
@[simp] theorem strsD_str : ∀ xs : List (List Nat), strsD (xs.map .str) = some xs
  | [] => rfl
  | x :: xs => by simp [strsD, strsD_str xs]
@[simp] theorem gAll_map {o} {xs : List Bool} : gAll [.lst o (xs.map .bl)] = some (.bl (xs.all id)) := by simp [gAll]
@[simp] theorem gAny_map {o} {xs : List Bool} : gAny [.lst o (xs.map .bl)] = some (.bl (xs.any id)) := by simp [gAny]
@[simp] theorem gSum_map {o} {xs : List Int} : gSum [.lst o (xs.map .int)] = some (.int xs.sum) := by simp [gSum]
@[simp] theorem gTuple_one {d} : gTuple [d] = (items d).map .tup := rfl
@[simp] theorem gList_one {d} : gList [d] = (items d).map (.lst true) := rfl
@[simp] theorem walked_str {l} : walked (.str l) = some (l.map fun c => .str [c]) := rfl
@[simp] theorem walked_tup {l} : walked (.tup l) = some l := rfl
@[simp] theorem walked_lf {l} : walked (.lst false l) = some l := rfl
@[simp] theorem walked_lt {l : List D} : walked (.lst true l) = if l.all notOwn then some l else none := rfl
@[simp] theorem dRev_tup {l} : dRev (.tup l) = some (.tup l.reverse) := rfl
@[simp] theorem dRev_str {l} : dRev (.str l) = some (.str l.reverse) := rfl
@[simp] theorem dRev_lf {l} : dRev (.lst false l) = some (.lst true l.reverse) := rfl
@[simp] theorem dRev_lt {l : List D} : dRev (.lst true l) = if l.all notOwn then some (.lst true l.reverse) else none := rfl
@[simp] theorem dCut_tup {xs lo hi} : dCut (.tup xs) lo hi = some (.tup (cut xs lo hi)) := rfl
@[simp] theorem dCut_str {xs lo hi} : dCut (.str xs) lo hi = some (.str (cut xs lo hi)) := rfl
@[simp] theorem dCut_lf {xs lo hi} : dCut (.lst false xs) lo hi = some (.lst true (cut xs lo hi)) := rfl
@[simp] theorem dCut_lt {xs : List D} {lo hi} : dCut (.lst true xs) lo hi = if xs.all notOwn then some (.lst true (cut xs lo hi)) else none := rfl
@[simp] theorem dIx_tup {xs : List D} {i : Int} : dIx (.tup xs) (.int i) = atI xs i := rfl
@[simp] theorem dIx_lst {o} {xs : List D} {i : Int} : dIx (.lst o xs) (.int i) = atI xs i := rfl
@[simp] theorem dIx_str {l : List Nat} {i : Int} : dIx (.str l) (.int i) = (atI l i).map fun c => .str [c] := rfl
@[simp] theorem tru_bl {b} : tru (.bl b) = some b := rfl
@[simp] theorem tru_int {i : Int} : tru (.int i) = some (i != 0) := rfl
@[simp] theorem tru_str {l} : tru (.str l) = some (!l.isEmpty) := rfl
@[simp] theorem tru_tup {l} : tru (.tup l) = some (!l.isEmpty) := rfl
@[simp] theorem tru_lst {o l} : tru (.lst o l) = some (!l.isEmpty) := rfl
@[simp] theorem tru_non : tru .non = some false := rfl
@[simp] theorem notOwn_int {i : Int} : notOwn (.int i) = true := rfl
@[simp] theorem notOwn_str {l} : notOwn (.str l) = true := rfl
@[simp] theorem notOwn_bl {l} : notOwn (.bl l) = true := rfl
@[simp] theorem notOwn_non : notOwn .non = true := rfl
@[simp] theorem notOwn_tup {l} : notOwn (.tup l) = true := rfl
@[simp] theorem notOwn_lf {l} : notOwn (.lst false l) = true := rfl
@[simp] theorem notOwn_lt {l} : notOwn (.lst true l) = false := rfl
theorem atI_nat {α : Type} {xs : List α} {i : Int} (h0 : 0 ≤ i) : atI xs i = xs[i.toNat]? := by
  unfold atI ixN
  rw [if_pos h0]
  by_cases h : i < xs.length
  · rw [if_pos h]; rfl
  · rw [if_neg h, List.getElem?_eq_none (by omega)]; rfl
theorem atI_get {α : Type} {xs : List α} {i : Int} (h0 : 0 ≤ i) (h : i.toNat < xs.length) : atI xs i = some xs[i.toNat] := by
  rw [atI_nat h0, List.getElem?_eq_getElem h]
@[simp] theorem atI_cast {α : Type} {xs : List α} {i : Nat} : atI xs (i : Int) = xs[i]? := by rw [atI_nat (by omega)]; rfl
@[simp] theorem atI_zero {α : Type} {xs : List α} : atI xs 0 = xs[0]? := atI_cast (i := 0)
@[simp] theorem atI_two {α : Type} {xs : List α} : atI xs 2 = xs[2]? := atI_cast (i := 2)
@[simp] theorem atI_three {α : Type} {xs : List α} : atI xs 3 = xs[3]? := atI_cast (i := 3)
@[simp] theorem atI_one {α : Type} {xs : List α} : atI xs 1 = xs[1]? := atI_cast (i := 1)
theorem dIxE_of {x i d : D} (h : dIx x i = some d) (n : notOwn d = true) : dIxE x i = some d := by unfold dIxE; rw [h]; simp [n]
section
variable {α : Type} {xs : List α} {i j : Int}
@[simp] theorem cut_nn : cut xs none none = xs := by simp [cut, HT.sIx]
theorem cut_from (h : 0 ≤ i) : cut xs (some i) none = xs.drop i.toNat := by
  unfold cut HT.sIx
  simp only
  rw [if_neg (by omega)]
  by_cases hl : i.toNat ≤ xs.length
  · rw [Nat.min_eq_left hl, List.take_of_length_le (by simp)]
  · rw [Nat.min_eq_right (by omega), List.drop_of_length_le (Nat.le_refl _), List.drop_of_length_le (by omega)]; simp
theorem cut_to (h : 0 ≤ j) : cut xs none (some j) = xs.take j.toNat := by
  unfold cut HT.sIx
  simp only
  rw [if_neg (by omega)]
  simp only [List.drop_zero, Nat.sub_zero]
  by_cases hl : j.toNat ≤ xs.length
  · rw [Nat.min_eq_left hl]
  · rw [Nat.min_eq_right (by omega), List.take_of_length_le (Nat.le_refl _), List.take_of_length_le (by omega)]
theorem cut_both (h : 0 ≤ i) (h2 : 0 ≤ j) : cut xs (some i) (some j) = (xs.drop i.toNat).take (j.toNat - i.toNat) := by
  unfold cut HT.sIx
  simp only
  rw [if_neg (by omega), if_neg (by omega)]
  by_cases hl : i.toNat ≤ xs.length
  · rw [Nat.min_eq_left hl]
    by_cases hj : j.toNat ≤ xs.length
    · rw [Nat.min_eq_left hj]
    · rw [Nat.min_eq_right (by omega), List.take_of_length_le (by simp), List.take_of_length_le (by simp; omega)]
  · have hm : min i.toNat xs.length = xs.length := Nat.min_eq_right (by omega)
    rw [hm, List.drop_of_length_le (Nat.le_refl xs.length), List.drop_of_length_le (i := i.toNat) (by omega)]; simp
@[simp] theorem cut_fromN {i : Nat} : cut xs (some (i : Int)) none = xs.drop i := by rw [cut_from (by omega)]; rfl
@[simp] theorem cut_toN {i : Nat} : cut xs none (some (i : Int)) = xs.take i := by rw [cut_to (by omega)]; rfl
@[simp] theorem cut_bothN {i j : Nat} : cut xs (some (i : Int)) (some (j : Int)) = (xs.drop i).take (j - i) := by rw [cut_both (by omega) (by omega)]; rfl
theorem cut_map {β : Type} {f : α → β} {lo hi : Option Int} : cut (xs.map f) lo hi = (cut xs lo hi).map f := by simp [cut, List.map_take, List.map_drop]
end
theorem deq_int {i j : Int} : deq (.int i) (.int j) = (i == j) := by simp only [deq]
theorem deq_str {i j} : deq (.str i) (.str j) = (i == j) := by simp only [deq]
theorem deq_tup {i j} : deq (.tup i) (.tup j) = deqL i j := by simp only [deq]
theorem deq_lst {o u i j} : deq (.lst o i) (.lst u j) = deqL i j := by simp only [deq]
theorem deqL_map {α : Type} [BEq α] [LawfulBEq α] {f : α → D} (h : ∀ a b, deq (f a) (f b) = (a == b)) : ∀ xs ys : List α, deqL (xs.map f) (ys.map f) = (xs == ys)
  | [], [] => by simp [deqL]
  | [], y :: ys => by simp [deqL]
  | x :: xs, [] => by simp [deqL]
  | x :: xs, y :: ys => by simp [deqL, h, deqL_map h xs ys]
theorem deqL_strs {xs ys : List (List Nat)} : deqL (xs.map .str) (ys.map .str) = (xs == ys) := deqL_map (fun _ _ => deq_str) xs ys
theorem deqL_ints {xs ys : List Int} : deqL (xs.map .int) (ys.map .int) = (xs == ys) := deqL_map (fun _ _ => deq_int) xs ys
theorem pd_str {n l} : pd n (.str l) = true := by cases n <;> rfl
theorem pd_int {n i} : pd n (.int i) = true := by cases n <;> rfl
theorem pd_bl {n i} : pd n (.bl i) = true := by cases n <;> rfl
theorem pd_non {n} : pd n .non = true := by cases n <;> rfl
theorem pd_tup {n xs} : pd (n + 1) (.tup xs) = xs.all (pd n) := rfl
theorem pd_lst {n o xs} : pd (n + 1) (.lst o xs) = xs.all (pd n) := rfl
theorem pd_tupStr {n} {xs : List (List Nat)} : pd (n + 1) (.tup (xs.map .str)) = true := by simp [pd_tup, pd_str]
theorem dEq_of {a b : D} (ha : pd 60 a = true) (hb : pd 60 b = true) : dEq a b = some (.bl (deq a b)) := by simp [dEq, ha, hb]
theorem dNe_of {a b : D} (ha : pd 60 a = true) (hb : pd 60 b = true) : dNe a b = some (.bl (!deq a b)) := by simp [dNe, ha, hb]
@[simp] theorem dEq_int {i j : Int} : dEq (.int i) (.int j) = some (.bl (i == j)) := by rw [dEq_of pd_int pd_int, deq_int]
@[simp] theorem dEq_str {i j} : dEq (.str i) (.str j) = some (.bl (i == j)) := by rw [dEq_of pd_str pd_str, deq_str]
@[simp] theorem dNe_int {i j : Int} : dNe (.int i) (.int j) = some (.bl (i != j)) := by rw [dNe_of pd_int pd_int, deq_int]; rfl
@[simp] theorem dNe_str {i j} : dNe (.str i) (.str j) = some (.bl (i != j)) := by rw [dNe_of pd_str pd_str, deq_str]; rfl
@[simp] theorem dEq_strs {xs ys : List (List Nat)} : dEq (.tup (xs.map .str)) (.tup (ys.map .str)) = some (.bl (xs == ys)) := by rw [dEq_of pd_tupStr pd_tupStr, deq_tup, deqL_strs]
@[simp] theorem dNe_strs {xs ys : List (List Nat)} : dNe (.tup (xs.map .str)) (.tup (ys.map .str)) = some (.bl (xs != ys)) := by rw [dNe_of pd_tupStr pd_tupStr, deq_tup, deqL_strs]; rfl
theorem asI1_nat {n : Nat} (h : n < 4611686018427387904) : asI1 [.int (n : Int)] = some ((List.range n).map fun (k : Nat) => .int (k : Int)) := by
  simp only [asI1]
  rw [if_pos ⟨by omega, by omega⟩]; rfl
theorem asI1_int {i : Int} (h0 : 0 ≤ i) (h : i < 4611686018427387904) : asI1 [.int i] = some ((List.range i.toNat).map fun (k : Nat) => .int (k : Int)) := by
  simp only [asI1]
  rw [if_pos ⟨by omega, by omega⟩]
theorem asI2_int {i j : Int} (h0 : -1000000000 ≤ i) (h : i < 4611686018427387904) (h1 : -1000000000 ≤ j) (h2 : j < 4611686018427387904) : asI2 [.int i, .int j] = some ((List.range (j - i).toNat).map fun (k : Nat) => .int (i + (k : Int))) := by
  simp only [asI2]
  rw [if_pos ⟨⟨by omega, by omega⟩, by omega, by omega⟩]

/-- a statement, then the others: with what holds between -/
theorem wp_seq {A B : M Fl} {z : Z} {Q : Fl → Z → Prop} {E : EX} (I : Z → Prop) (h : Wp A z (fun f z' => f = .nx ∧ I z') E) (k : ∀ z', I z' → Wp B z' Q E) : Wp (fSeq A B) z Q E := by
  rw [wp_fSeq]
  refine h.q ?_
  rintro f z' ⟨rfl, hi⟩
  exact k z' hi
/-- .. that may return, too -/
theorem wp_seqR {A B : M Fl} {z : Z} {Q : Fl → Z → Prop} {E : EX} (I : Z → Prop) (h : Wp A z (fun f z' => (f = .nx ∧ I z') ∨ (f ≠ .nx ∧ Q f z')) E) (k : ∀ z', I z' → Wp B z' Q E) : Wp (fSeq A B) z Q E := by
  rw [wp_fSeq]
  refine h.q ?_
  rintro f z' (⟨rfl, hi⟩ | ⟨hn, hq⟩)
  · exact k z' hi
  · cases f with
    | nx => exact absurd rfl hn
    | rt d => exact hq
    | bk => exact hq
    | ct => exact hq
/-- a comprehension that only looks -/
theorem wp_compP {α : Type} {E : EX} {Q : D → Z → Prop} {C : M Bool} {F : M D} {v : Nat} {Fi : M (List D)} {z : Z} {e : List (Option D)} {s : List Ob} {xs : List α} {f : α → D} (p : α → Bool) (g : α → D) (hi : Wp Fi z (fun ds z0 => ds = xs.map f ∧ z0 = ⟨e, s⟩) E) (hv : v < e.length) (hf : fixedAt e [v] = true) (hb : xs.length ≤ big)
    (hC : ∀ x ∈ xs, Wp C ⟨e.set v (some (f x)), s⟩ (fun b z => b = p x ∧ z = ⟨e.set v (some (f x)), s⟩) NoE) (hF : ∀ x ∈ xs, p x = true → Wp F ⟨e.set v (some (f x)), s⟩ (fun y z => y = g x ∧ z = ⟨e.set v (some (f x)), s⟩) NoE)
    (hq : Q (.lst true ((xs.filter p).map g)) ⟨e, s⟩) : Wp (fComp [v] Fi (tName v) C F) z Q E := by
  refine wp_comp (hi.q ?_)
  rintro ds z0 ⟨rfl, rfl⟩
  refine ⟨hf, hv, by simpa using hb, fun k acc s' => s' = s ∧ acc = ((xs.take k).filter p).map g, ⟨rfl, by simp⟩, ?_, ?_⟩
  · rintro k acc s' hk ⟨rfl, rfl⟩
    have hk' : k < xs.length := by simpa using hk
    have hm : xs[k] ∈ xs := List.getElem_mem hk'
    have ht : xs.take (k + 1) = xs.take k ++ [xs[k]] := by rw [List.take_add_one, List.getElem?_eq_getElem hk']; rfl
    simp only [List.getElem_map]
    refine (hC _ hm).q ?_
    rintro b z1 ⟨rfl, rfl⟩
    refine ⟨rfl, ?_⟩
    by_cases hp : p xs[k] = true
    · rw [if_pos hp]
      refine (hF _ hm hp).q ?_
      rintro y z2 ⟨rfl, rfl⟩
      exact ⟨rfl, rfl, by rw [ht, List.filter_append, List.map_append, List.filter_cons_of_pos hp]; rfl⟩
    · rw [if_neg hp]
      exact ⟨rfl, by rw [ht, List.filter_append, List.filter_cons_of_neg hp]; simp⟩
  · rintro acc s' ⟨rfl, rfl⟩
    simpa using hq
theorem wp_compA {α : Type} {E : EX} {Q : D → Z → Prop} {F : M D} {v : Nat} {Fi : M (List D)} {z : Z} {e : List (Option D)} {s : List Ob} {xs : List α} {f : α → D} (g : α → D) (hi : Wp Fi z (fun ds z0 => ds = xs.map f ∧ z0 = ⟨e, s⟩) E) (hv : v < e.length) (hf : fixedAt e [v] = true) (hb : xs.length ≤ big)
    (hF : ∀ x ∈ xs, Wp F ⟨e.set v (some (f x)), s⟩ (fun y z => y = g x ∧ z = ⟨e.set v (some (f x)), s⟩) NoE)
    (hq : Q (.lst true (xs.map g)) ⟨e, s⟩) : Wp (fComp [v] Fi (tName v) (ret true) F) z Q E :=
  wp_compP (fun _ => true) g hi hv hf hb (fun _ _ => ⟨rfl, rfl⟩) (fun x hx _ => hF x hx) (by rw [List.filter_eq_self.mpr (fun _ _ => rfl)]; exact hq)

/-! ### the stream of the laws -/
def B_next : M Fl :=
  (fSeq (fIf (fTest (fBin dEq (fIxO (fVB 0) (fC (.int 1))) (fC (.int 0)))) (fSeq (fSet 2 (fIxO (fVB 0) (fC (.int 2))))
  (fSeq (fSet 3 (fBin dAdd (fC (.int 7)) (fVB 2)))
  (fSeq (fIf (fTest (fBin dLt (fVB 2) (fCB gLen (fCons (fIxO (fVB 0) (fC (.int 0))) fNil)))) (fSet 3 (fCB gAbs (fCons (fIxB (fIxO (fVB 0) (fC (.int 0))) (fVB 2)) fNil))) (ret .nx))
  (fSeq (fIf (fTest (fBin dLt (fVB 3) (fBin dPow (fC (.int 10)) (fC (.int 18))))) (fSeq (fSet 3 (fBin dMod (fCB gInt (fCons (fBin dAdd (fBin dAdd (fBin dMul (fVB 3) (fC (.int 48271))) (fBin dMul (fVB 2) (fC (.int 69621)))) (fC (.int 11))) fNil)) (fC (.int 2147483647))))
  (fSet 3 (fBin dAdd (fBin dMul (fBin dMod (fCB gInt (fCons (fBin dAdd (fBin dMul (fVB 3) (fC (.int 16807))) (fC (.int 13))) fNil)) (fC (.int 2147483647))) (fC (.int 65537))) (fVB 3)))) (ret .nx))
  (fSeq (fSetO (fV 3) (fVB 0) (fC (.int 1)))
  (fSetO (fBin dAdd (fVB 2) (fC (.int 1))) (fVB 0) (fC (.int 2)))))))) (ret .nx))
  (fSeq (fSet 4 (fBin dMod (fCB gInt (fCons (fIxO (fVB 0) (fC (.int 1))) fNil)) (fVB 1)))
  (fSeq (fSetO (fBin dDiv (fIxO (fVB 0) (fC (.int 1))) (fVB 1)) (fVB 0) (fC (.int 1)))
  (fRetV 4))))
def F_next : Fn := fnOf 2 5 B_next
/-- the store of a law: the script, the stream, what else there is -/
def Stm (r : List Ob) (s : List Ob) : Prop := ∃ ns c k, 0 ≤ k ∧ s = .scr ns :: .strm ns c k :: r
theorem next_ok {r s : List Ob} {m : Int} (hs : Stm r s) (h1 : 0 < m) (h2 : m < 1073741824) : ∃ d s', F_next [.obj 1, .int m] s = .ok (.int d) s' ∧ Stm r s' ∧ 0 ≤ d ∧ d < m := by
  obtain ⟨ns, c, k, hk, rfl⟩ := hs
  have key : WpF (F_next [.obj 1, .int m] (.scr ns :: .strm ns c k :: r)) (fun v s' => ∃ d, v = .int d ∧ Stm r s' ∧ 0 ≤ d ∧ d < m) fun _ _ _ => False := by
    refine fn_wp rfl ?_
    have fin : ∀ (e2 e3 : Option D) (c' k' : Int), 0 ≤ k' → Wp (fSeq (fSet 4 (fBin dMod (fCB gInt (fCons (fIxO (fVB 0) (fC (.int 1))) fNil)) (fVB 1)))
  (fSeq (fSetO (fBin dDiv (fIxO (fVB 0) (fC (.int 1))) (fVB 1)) (fVB 0) (fC (.int 1)))
  (fRetV 4))) ⟨[some (.obj 1), some (.int m), e2, e3, none], .scr ns :: .strm ns c' k' :: r⟩ (fun f z => ∃ d', f = .rt (.int d') ∧ Stm r z.st ∧ 0 ≤ d' ∧ d' < m) NoE := by
      intro e2 e3 c' k' hk'
      simp [ixO, setO, h1, h2]
      exact ⟨⟨ns, c' / m, k', hk', rfl⟩, Int.emod_nonneg _ (by omega), Int.emod_lt_of_pos _ h1⟩
    unfold B_next
    rw [wp_fSeq]
    refine Wp.q (Q := fun f z => f = .nx ∧ ∃ e2 e3 c' k', 0 ≤ k' ∧ z = ⟨[some (.obj 1), some (.int m), e2, e3, none], .scr ns :: .strm ns c' k' :: r⟩) ?_ ?_
    · simp [ixO, setO]
      by_cases h0 : c = 0
      · simp [h0, atI_nat hk]
        by_cases hl : k < ns.length
        · have hg : ns[k.toNat]? = some ns[k.toNat] := List.getElem?_eq_getElem (by omega)
          simp [hl, hg, ixO, setO]
          repeat' split
          all_goals (refine ⟨_, _, _, _, ?_, ⟨rfl, rfl⟩, rfl, rfl⟩; omega)
        · simp [hl, ixO, setO]
          repeat' split
          all_goals (refine ⟨_, _, _, _, ?_, ⟨rfl, rfl⟩, rfl, rfl⟩; omega)
      · simp [h0]
        exact ⟨_, _, _, _, hk, ⟨rfl, rfl⟩, rfl, rfl⟩
    · rintro f z ⟨rfl, e2, e3, c', k', hk', rfl⟩
      refine (fin e2 e3 c' k' hk').q ?_
      rintro f z ⟨d', rfl, h⟩
      exact ⟨d', rfl, h⟩
  obtain ⟨v, s', e, d, rfl, h⟩ := key.ok
  exact ⟨d, s', e, h⟩
end G

namespace Law
open PySem L2 G
def B_is_row : M Fl :=
  (fRet (fAndV (fUn (dIsi "tuple") (fVB 0)) (fAndV (fBin dLe (fCB gLen (fCons (fVB 0) fNil)) (fC (.int 100))) (fCB gAll (fCons (fComp [1] (fWalk (fV 0)) (tName 1) (ret true) (fUn (dIsi "str") (fVB 1))) fNil)))))
def F_is_row : Fn := fnOf 1 2 B_is_row
def B_alike_ahead : M Fl :=
  (fSeq (fSet 2 (fC (.int 0)))
  (fSeq (whileN (fAndT (fTest (fBin dLt (fVB 2) (fCB gMin2 (fCons (fCB gLen (fCons (fVB 0) fNil)) (fCons (fCB gLen (fCons (fVB 1) fNil)) fNil))))) (fTest (fBin dEq (fIxB (fVB 0) (fVB 2)) (fIxB (fVB 1) (fVB 2))))) (fSet 2 (fBin dAdd (fVB 2) (fC (.int 1)))) FUEL)
  (fRetV 2)))
def F_alike_ahead : Fn := fnOf 2 3 B_alike_ahead
def B_change_of : M Fl :=
  (fSeq (fSet 2 (fCall F_alike_ahead (fCons (fV 0) (fCons (fV 1) fNil))))
  (fSeq (fSet 3 (fCall F_alike_ahead (fCons (fUn dRev (fCut (fVB 0) (fPart (fVB 2)) fNoPart)) (fCons (fUn dRev (fCut (fVB 1) (fPart (fVB 2)) fNoPart)) fNil))))
  (fRet (fTup (fCons (fV 2) (fCons (fBin dSub (fBin dSub (fCB gLen (fCons (fVB 0) fNil)) (fVB 2)) (fVB 3)) (fCons (fCut (fVB 1) (fPart (fVB 2)) (fPart (fBin dSub (fCB gLen (fCons (fVB 1) fNil)) (fVB 3)))) fNil)))))))
def F_change_of : Fn := fnOf 2 4 B_change_of
def B_change : M Fl :=
  (fSeq (fIf (fNotT (fTru (fCall F_is_row (fCons (fV 0) fNil)))) (fRaise "BadValue" (fCons (fC (.str [111, 108, 100])) fNil)) (ret .nx))
  (fSeq (fIf (fNotT (fTru (fCall F_is_row (fCons (fV 1) fNil)))) (fRaise "BadValue" (fCons (fC (.str [110, 101, 119])) fNil)) (ret .nx))
  (fRet (fCall F_change_of (fCons (fV 0) (fCons (fV 1) fNil))))))
def F_change : Fn := fnOf 2 2 B_change
def B__law_stream : M Fl :=
  (fStrm 0)
def F__law_stream : Fn := fnOf 1 1 B__law_stream
def B__law_next : M Fl :=
  (fSeq (fIf (fTest (fBin dEq (fIxO (fVB 0) (fC (.int 1))) (fC (.int 0)))) (fSeq (fSet 2 (fIxO (fVB 0) (fC (.int 2))))
  (fSeq (fSet 3 (fBin dAdd (fC (.int 7)) (fVB 2)))
  (fSeq (fIf (fTest (fBin dLt (fVB 2) (fCB gLen (fCons (fIxO (fVB 0) (fC (.int 0))) fNil)))) (fSet 3 (fCB gAbs (fCons (fIxB (fIxO (fVB 0) (fC (.int 0))) (fVB 2)) fNil))) (ret .nx))
  (fSeq (fIf (fTest (fBin dLt (fVB 3) (fBin dPow (fC (.int 10)) (fC (.int 18))))) (fSeq (fSet 3 (fBin dMod (fCB gInt (fCons (fBin dAdd (fBin dAdd (fBin dMul (fVB 3) (fC (.int 48271))) (fBin dMul (fVB 2) (fC (.int 69621)))) (fC (.int 11))) fNil)) (fC (.int 2147483647))))
  (fSet 3 (fBin dAdd (fBin dMul (fBin dMod (fCB gInt (fCons (fBin dAdd (fBin dMul (fVB 3) (fC (.int 16807))) (fC (.int 13))) fNil)) (fC (.int 2147483647))) (fC (.int 65537))) (fVB 3)))) (ret .nx))
  (fSeq (fSetO (fV 3) (fVB 0) (fC (.int 1)))
  (fSetO (fBin dAdd (fVB 2) (fC (.int 1))) (fVB 0) (fC (.int 2)))))))) (ret .nx))
  (fSeq (fSet 4 (fBin dMod (fCB gInt (fCons (fIxO (fVB 0) (fC (.int 1))) fNil)) (fVB 1)))
  (fSeq (fSetO (fBin dDiv (fIxO (fVB 0) (fC (.int 1))) (fVB 1)) (fVB 0) (fC (.int 1)))
  (fRetV 4))))
def F__law_next : Fn := fnOf 2 5 B__law_next
def B__law_row : M Fl :=
  (fRet (fCB gTuple (fCons (fComp [1] (fRange asI1 (fCons (fCall F__law_next (fCons (fV 0) (fCons (fC (.int 8)) fNil))) fNil)) (tName 1) (ret true) (fIx (fLst (fCons (fC (.str [97])) (fCons (fC (.str [97, 98])) (fCons (fC (.str [])) fNil)))) (fCall F__law_next (fCons (fV 0) (fCons (fC (.int 3)) fNil))))) fNil)))
def F__law_row : Fn := fnOf 1 2 B__law_row
def B__law_smallest : M Fl :=
  (fSeq (fSet 2 (fC (.int 0)))
  (fSeq (fFor (fRange asI1 (fCons (fCB gMin2 (fCons (fCB gLen (fCons (fVB 0) fNil)) (fCons (fCB gLen (fCons (fVB 1) fNil)) fNil))) fNil)) (tName 3) (fIf (fAndT (fTest (fBin dEq (fVB 2) (fVB 3))) (fTest (fBin dEq (fIxB (fVB 0) (fVB 3)) (fIxB (fVB 1) (fVB 3))))) (fSet 2 (fBin dAdd (fVB 3) (fC (.int 1)))) (ret .nx)))
  (fSeq (fSet 4 (fC (.int 0)))
  (fSeq (fFor (fRange asI2 (fCons (fC (.int 1)) (fCons (fBin dAdd (fBin dSub (fCB gMin2 (fCons (fCB gLen (fCons (fVB 0) fNil)) (fCons (fCB gLen (fCons (fVB 1) fNil)) fNil))) (fVB 2)) (fC (.int 1))) fNil))) (tName 3) (fIf (fAndT (fTest (fBin dEq (fVB 4) (fBin dSub (fVB 3) (fC (.int 1))))) (fTest (fBin dEq (fIxB (fVB 0) (fBin dSub (fCB gLen (fCons (fVB 0) fNil)) (fVB 3))) (fIxB (fVB 1) (fBin dSub (fCB gLen (fCons (fVB 1) fNil)) (fVB 3)))))) (fSet 4 (fV 3)) (ret .nx)))
  (fRet (fTup (fCons (fV 2) (fCons (fBin dSub (fBin dSub (fCB gLen (fCons (fVB 0) fNil)) (fVB 2)) (fVB 4)) (fCons (fCut (fVB 1) (fPart (fVB 2)) (fPart (fBin dSub (fCB gLen (fCons (fVB 1) fNil)) (fVB 4)))) fNil)))))))))
def F__law_smallest : Fn := fnOf 2 5 B__law_smallest
def B_law : M Fl :=
  (fSeq (fSet 1 (fCall F__law_stream (fCons (fV 0) fNil)))
  (fSeq (fSet 2 (fCall F__law_row (fCons (fV 1) fNil)))
  (fSeq (fSet 3 (fCall F__law_row (fCons (fV 1) fNil)))
  (fSeq (fIf (fTest (fBin dGt (fCall F__law_next (fCons (fV 1) (fCons (fC (.int 3)) fNil))) (fC (.int 0)))) (fSeq (fSet 4 (fCall F__law_next (fCons (fV 1) (fCons (fBin dAdd (fCB gLen (fCons (fVB 2) fNil)) (fC (.int 1))) fNil))))
  (fSet 3 (fBin dAdd (fBin dAdd (fCut (fVB 2) fNoPart (fPart (fVB 4))) (fCut (fVB 3) fNoPart (fPart (fC (.int 2))))) (fCut (fVB 2) (fPart (fBin dAdd (fVB 4) (fCall F__law_next (fCons (fV 1) (fCons (fC (.int 3)) fNil))))) fNoPart)))) (ret .nx))
  (fSeq (fSet 5 (fCall F_change (fCons (fV 2) (fCons (fV 3) fNil))))
  (fSeq (fIf (fOrT (fTest (fBin dNe (fVB 5) (fCall F__law_smallest (fCons (fV 2) (fCons (fV 3) fNil))))) (fTest (fBin dNe (fBin dAdd (fBin dAdd (fCut (fVB 2) fNoPart (fPart (fIxB (fVB 5) (fC (.int 0))))) (fIxB (fVB 5) (fC (.int 2)))) (fCut (fVB 2) (fPart (fBin dAdd (fIxB (fVB 5) (fC (.int 0))) (fIxB (fVB 5) (fC (.int 1))))) fNoPart)) (fVB 3)))) (fRet (fC (.bl false))) (ret .nx))
  (fSeq (fFor (fRange asI1 (fCons (fBin dAdd (fCB gLen (fCons (fVB 2) fNil)) (fC (.int 1))) fNil)) (tName 6) (fFor (fRange asI1 (fCons (fBin dAdd (fBin dSub (fCB gLen (fCons (fVB 2) fNil)) (fVB 6)) (fC (.int 1))) fNil)) (tName 7) (fSeq (fSet 8 (fBin dSub (fCB gLen (fCons (fVB 3) fNil)) (fBin dSub (fCB gLen (fCons (fVB 2) fNil)) (fVB 7))))
  (fIf (fAndT (fTest (fBin dGe (fVB 8) (fC (.int 0)))) (fTest (fBin dEq (fBin dAdd (fBin dAdd (fCut (fVB 2) fNoPart (fPart (fVB 6))) (fCut (fVB 3) (fPart (fVB 6)) (fPart (fBin dAdd (fVB 6) (fVB 8))))) (fCut (fVB 2) (fPart (fBin dAdd (fVB 6) (fVB 7))) fNoPart)) (fVB 3)))) (fIf (fOrT (fTest (fBin dLt (fVB 7) (fIxB (fVB 5) (fC (.int 1))))) (fTest (fBin dLt (fVB 8) (fCB gLen (fCons (fIxB (fVB 5) (fC (.int 2))) fNil))))) (fRet (fC (.bl false))) (ret .nx)) (ret .nx)))))
  (fRet (fBin dEq (fCall F_change (fCons (fV 3) (fCons (fV 3) fNil))) (fTup (fCons (fCB gLen (fCons (fVB 3) fNil)) (fCons (fC (.int 0)) (fCons (fTup fNil) fNil)))))))))))))
def F_law : Fn := fnOf 1 9 B_law
end Law
namespace Law
open PySem L2 G
/-! ### how far two rows are alike -/
def lcp : List (List Nat) → List (List Nat) → Nat
  | x :: xs, y :: ys => if x = y then lcp xs ys + 1 else 0
  | _, _ => 0
theorem lcp_left : ∀ a b : List (List Nat), lcp a b ≤ a.length
  | [], _ => by simp [lcp]
  | x :: xs, [] => by simp [lcp]
  | x :: xs, y :: ys => by
    unfold lcp
    have := lcp_left xs ys
    split <;> simp <;> omega
theorem lcp_right : ∀ a b : List (List Nat), lcp a b ≤ b.length
  | [], _ => by simp [lcp]
  | x :: xs, [] => by simp [lcp]
  | x :: xs, y :: ys => by
    unfold lcp
    have := lcp_right xs ys
    split <;> simp <;> omega
theorem lcp_take : ∀ a b : List (List Nat), a.take (lcp a b) = b.take (lcp a b)
  | [], _ => by simp [lcp]
  | x :: xs, [] => by simp [lcp]
  | x :: xs, y :: ys => by
    unfold lcp
    split
    · rename_i h; subst h; simp [lcp_take xs ys]
    · simp
theorem lcp_max : ∀ (a b : List (List Nat)) (n : Nat), n ≤ a.length → n ≤ b.length → a.take n = b.take n → n ≤ lcp a b
  | _, _, 0, _, _, _ => Nat.zero_le _
  | [], _, n + 1, h, _, _ => by simp at h
  | x :: xs, [], n + 1, _, h, _ => by simp at h
  | x :: xs, y :: ys, n + 1, h1, h2, e => by
    simp at h1 h2 e
    unfold lcp
    rw [if_pos e.1]
    have := lcp_max xs ys n h1 h2 e.2
    omega
theorem lcp_get {a b : List (List Nat)} {i : Nat} (h : i < lcp a b) : a[i]? = b[i]? := by
  have e := congrArg (fun l => l[i]?) (lcp_take a b)
  simpa [List.getElem?_take, h] using e
theorem lcp_stop {a b : List (List Nat)} {i : Nat} (h : i ≤ lcp a b) (ha : i < a.length) (hb : i < b.length) (e : a[i]? = b[i]?) : i < lcp a b := by
  refine lcp_max a b (i + 1) ha hb ?_
  have ht : a.take i = b.take i := by
    have := congrArg (List.take i) (lcp_take a b)
    simpa [List.take_take, Nat.min_eq_left h] using this
  rw [List.take_add_one, List.take_add_one, ht, e]
theorem lcp_iff {a b : List (List Nat)} {i : Nat} (h : i ≤ lcp a b) (ha : i < a.length) (hb : i < b.length) : i < lcp a b ↔ a[i] = b[i] := by
  constructor
  · intro q
    have := lcp_get q
    rw [List.getElem?_eq_getElem ha, List.getElem?_eq_getElem hb] at this
    exact Option.some.inj this
  · intro q
    refine lcp_stop h ha hb ?_
    rw [List.getElem?_eq_getElem ha, List.getElem?_eq_getElem hb, q]
theorem lcp_self (a : List (List Nat)) : lcp a a = a.length := Nat.le_antisymm (lcp_left a a) (lcp_max a a _ (Nat.le_refl _) (Nat.le_refl _) rfl)
/-- where the change begins, and how much stays behind it -/
def sta (a b : List (List Nat)) : Nat := lcp a b
def en (a b : List (List Nat)) : Nat := lcp (a.drop (sta a b)).reverse (b.drop (sta a b)).reverse
theorem en_left (a b : List (List Nat)) : sta a b + en a b ≤ a.length := by
  have h1 := lcp_left a b
  have h2 := lcp_left (a.drop (sta a b)).reverse (b.drop (sta a b)).reverse
  unfold en; unfold sta at *; simp at h2; omega
theorem en_right (a b : List (List Nat)) : sta a b + en a b ≤ b.length := by
  have h1 := lcp_right a b
  have h2 := lcp_right (a.drop (sta a b)).reverse (b.drop (sta a b)).reverse
  unfold en; unfold sta at *; simp at h2; omega
theorem en_drop (a b : List (List Nat)) : a.drop (a.length - en a b) = b.drop (b.length - en a b) := by
  have h := lcp_take (a.drop (sta a b)).reverse (b.drop (sta a b)).reverse
  have h1 := en_left a b
  have h2 := en_right a b
  change List.take (en a b) _ = List.take (en a b) _ at h
  rw [List.take_reverse, List.take_reverse] at h
  have h := List.reverse_inj.mp h
  simp only [List.drop_drop, List.length_drop] at h
  rw [show sta a b + (a.length - sta a b - en a b) = a.length - en a b by omega, show sta a b + (b.length - sta a b - en a b) = b.length - en a b by omega] at h
  exact h
def ins (a b : List (List Nat)) : List (List Nat) := (b.drop (sta a b)).take (b.length - en a b - sta a b)
theorem ins_len (a b : List (List Nat)) : (ins a b).length = b.length - en a b - sta a b := by
  have h2 := en_right a b
  unfold ins; simp; omega
theorem put_back (a b : List (List Nat)) : a.take (sta a b) ++ ins a b ++ a.drop (sta a b + (a.length - sta a b - en a b)) = b := by
  have h1 := en_left a b
  have h2 := en_right a b
  rw [show sta a b + (a.length - sta a b - en a b) = a.length - en a b by omega, en_drop]
  have h3 : a.take (sta a b) = b.take (sta a b) := lcp_take a b
  rw [h3]
  unfold ins
  have h4 : (b.drop (sta a b)).take (b.length - en a b - sta a b) ++ b.drop (b.length - en a b) = b.drop (sta a b) := by
    have := List.take_append_drop (b.length - en a b - sta a b) (b.drop (sta a b))
    rw [List.drop_drop, show sta a b + (b.length - en a b - sta a b) = b.length - en a b by omega] at this
    exact this
  rw [List.append_assoc, h4, List.take_append_drop]
theorem least {a b : List (List Nat)} {st re m : Nat} (h : st + re ≤ a.length) (hm : m + a.length = b.length + re) (e : a.take st ++ (b.drop st).take m ++ a.drop (st + re) = b) : a.length - sta a b - en a b ≤ re ∧ (ins a b).length ≤ m := by
  have hp : a.take st = b.take st := by
    have := congrArg (List.take st) e
    rw [List.append_assoc, List.take_append_of_le_length (by simp; omega), List.take_take, Nat.min_self] at this
    exact this
  have hl := congrArg List.length e
  simp at hl
  have hst : st ≤ sta a b := lcp_max a b st (by omega) (by omega) hp
  have hs : a.drop (st + re) = b.drop (st + m) := by
    have := congrArg (List.drop (st + m)) e
    rw [List.drop_append, List.drop_of_length_le (by simp; omega), List.nil_append] at this
    simp only [List.length_append, List.length_take, List.length_drop] at this
    rw [show st + m - (min st a.length + min m (b.length - st)) = 0 by omega, List.drop_zero] at this
    exact this
  have key : a.length - re ≤ sta a b + en a b := by
    by_cases hc : a.length - re ≤ sta a b
    · omega
    · have ht : a.length - re - sta a b ≤ en a b := by
        refine lcp_max _ _ _ (by simp; omega) (by simp; omega) ?_
        rw [List.take_reverse, List.take_reverse]
        congr 1
        simp only [List.drop_drop, List.length_drop]
        have := congrArg (List.drop (sta a b - st)) hs
        simp only [List.drop_drop] at this
        rw [show sta a b + (a.length - sta a b - (a.length - re - sta a b)) = st + re + (sta a b - st) by omega, show sta a b + (b.length - sta a b - (a.length - re - sta a b)) = st + m + (sta a b - st) by omega]
        exact this
      omega
  have := ins_len a b
  omega
/-- what change gives -/
def chg (a b : List (List Nat)) : D := .tup [.int (sta a b), .int (a.length - sta a b - en a b), .tup ((ins a b).map .str)]
/-! ### what the functions give -/
abbrev tS (a : List (List Nat)) : D := .tup (a.map .str)
theorem is_row_ok {a : List (List Nat)} {s : List Ob} (h : a.length ≤ 100) : F_is_row [tS a] s = .ok (.bl true) s := by
  refine WpF.eq (fn_wp rfl ?_)
  unfold B_is_row
  simp [dIsi, isKnown, dty, isiB, h]
  refine ⟨by omega, wp_compA (xs := a) (f := .str) (e := [some (tS a), none]) (s := s) (fun _ => .bl true) (by simp) (by simp) rfl (by unfold big; omega) (fun x hx => by simp [dIsi, isKnown, dty, isiB]) ?_⟩
  have : (a.map fun _ => D.bl true) = (a.map fun _ => true).map D.bl := by simp
  rw [this, gAll_map]
  simp
theorem alike_ok {a b : List (List Nat)} {s : List Ob} (h : a.length ≤ 1000) : F_alike_ahead [tS a, tS b] s = .ok (.int (lcp a b)) s := by
  refine WpF.eq (fn_wp rfl ?_)
  unfold B_alike_ahead
  simp
  have h1 := lcp_left a b
  have h2 := lcp_right a b
  refine wp_while (fun k z => ∃ m : Nat, m ≤ lcp a b ∧ k = lcp a b - m ∧ z = ⟨[some (tS a), some (tS b), some (.int m)], s⟩) ?_ (k := lcp a b) (by unfold FUEL; omega) ⟨0, by omega, by omega, rfl⟩
  rintro k z ⟨m, hm, rfl, rfl⟩
  simp
  by_cases hc : m < a.length ∧ m < b.length
  · obtain ⟨ha, hb⟩ := hc
    have hq := lcp_iff hm ha hb
    simp [ha, hb]
    rw [if_pos (by omega)]
    split
    · rename_i e
      exact ⟨lcp a b - (m + 1), by have := hq.mpr e; omega, m + 1, by have := hq.mpr e; omega, rfl, by omega⟩
    · rename_i e
      have : ¬ m < lcp a b := fun q => e (hq.mp q)
      omega
  · rw [if_neg (by omega)]
    omega
theorem change_of_ok {a b : List (List Nat)} {s : List Ob} (h : a.length ≤ 1000) (hb : b.length ≤ 1000) : F_change_of [tS a, tS b] s = .ok (chg a b) s := by
  refine WpF.eq (fn_wp rfl ?_)
  unfold B_change_of
  have h1 := en_left a b
  have h2 := en_right a b
  have e2 : F_alike_ahead [.tup ((a.map D.str).drop (lcp a b)).reverse, .tup ((b.map D.str).drop (lcp a b)).reverse] s = .ok (.int (en a b)) s := by
    rw [← List.map_drop, ← List.map_drop, ← List.map_reverse, ← List.map_reverse]
    exact alike_ok (by simp; omega)
  have e3 : (b.length : Int) - (en a b : Int) = ((b.length - en a b : Nat) : Int) := by omega
  simp [alike_ok h, e2, e3]
  refine ⟨by unfold big; omega, ?_⟩
  unfold chg ins sta
  simp [sta]
theorem change_ok {a b : List (List Nat)} {s : List Ob} (h : a.length ≤ 100) (hb : b.length ≤ 100) : F_change [tS a, tS b] s = .ok (chg a b) s := by
  refine WpF.eq (fn_wp rfl ?_)
  unfold B_change
  simp [is_row_ok h, is_row_ok hb, change_of_ok (show a.length ≤ 1000 by omega) (show b.length ≤ 1000 by omega)]
theorem smallest_ok {a b : List (List Nat)} {s : List Ob} (h : a.length ≤ 100) (hb : b.length ≤ 100) : F__law_smallest [tS a, tS b] s = .ok (chg a b) s := by
  refine WpF.eq (fn_wp rfl ?_)
  unfold B__law_smallest
  have h1 := lcp_left a b
  have h2 := lcp_right a b
  simp
  rw [show min (a.length : Int) (b.length : Int) = ((min a.length b.length : Nat) : Int) by omega, asI1_nat (by omega)]
  simp
  refine wp_forR (fun k z => ∃ e3, z = ⟨[some (tS a), some (tS b), some (.int (min k (lcp a b) : Nat)), e3, none], s⟩) ⟨none, rfl⟩ ?_ ?_
  · rintro k z hk ⟨e3, rfl⟩
    have ha : k < a.length := by omega
    have hb : k < b.length := by omega
    have hq := lcp_iff (i := k) (a := a) (b := b)
    simp [ha, hb]
    by_cases hk2 : k ≤ lcp a b
    · have hq := hq hk2 ha hb
      rw [if_pos (by omega)]
      split
      · rename_i e; have := hq.mpr e; omega
      · rename_i e; have : ¬ k < lcp a b := fun q => e (hq.mp q); omega
    · rw [if_neg (by omega)]; omega
  · rintro z ⟨e3, rfl⟩
    rw [show min (min a.length b.length) (lcp a b) = lcp a b by omega]
    simp
    rw [asI2_int (by omega) (by omega) (by omega) (by omega)]
    simp
    have h3 := en_left a b
    have h4 := en_right a b
    have e5 : (min (a.length : Int) (b.length : Int)).toNat - lcp a b = min a.length b.length - lcp a b := by omega
    rw [e5]
    refine wp_forR (fun k z => ∃ e3, z = ⟨[some (tS a), some (tS b), some (.int (lcp a b)), e3, some (.int (min k (en a b) : Nat))], s⟩) ⟨e3, by simp⟩ ?_ ?_
    · rintro k z hk ⟨e3, rfl⟩
      have ha : k < a.length - lcp a b := by omega
      have hb : k < b.length - lcp a b := by omega
      have hq := lcp_iff (i := k) (a := (a.drop (sta a b)).reverse) (b := (b.drop (sta a b)).reverse)
      have ea : atI (a.map D.str) ((a.length : Int) - (1 + (k : Int))) = some (.str (a[a.length - 1 - k]'(by omega))) := by
        rw [atI_get (by omega) (by simp; omega)]
        simp [show ((a.length : Int) - (1 + (k : Int))).toNat = a.length - 1 - k by omega]
      have eb : atI (b.map D.str) ((b.length : Int) - (1 + (k : Int))) = some (.str (b[b.length - 1 - k]'(by omega))) := by
        rw [atI_get (by omega) (by simp; omega)]
        simp [show ((b.length : Int) - (1 + (k : Int))).toNat = b.length - 1 - k by omega]
      simp [ea, eb]
      simp [sta] at hq
      change k ≤ en a b → _ at hq
      have i1 : lcp a b + (a.length - lcp a b - 1 - k) = a.length - 1 - k := by omega
      have i2 : lcp a b + (b.length - lcp a b - 1 - k) = b.length - 1 - k := by omega
      simp only [i1, i2] at hq
      change k ≤ en a b → ∀ _ _, k < en a b ↔ _ at hq
      by_cases hk2 : k ≤ en a b
      · have hq := hq hk2 ha hb
        rw [if_pos (by omega)]
        split
        · rename_i e; have := hq.mpr e; omega
        · rename_i e; have : ¬ k < en a b := fun q => e (hq.mp q); omega
      · rw [if_neg (by omega)]; omega
    · rintro z ⟨e3, rfl⟩
      rw [show min (min a.length b.length - lcp a b) (en a b) = en a b by unfold sta at *; omega]
      have e3 : (b.length : Int) - (en a b : Int) = ((b.length - en a b : Nat) : Int) := by omega
      simp [e3]
      refine ⟨by unfold big; omega, ?_⟩
      unfold chg ins sta
      simp [sta]
/-! ### what is drawn -/
theorem row_ok {s : List Ob} (h : Stm [] s) : ∃ a s', F__law_row [.obj 1] s = .ok (tS a) s' ∧ Stm [] s' ∧ a.length ≤ 7 := by
  have key : WpF (F__law_row [.obj 1] s) (fun v s' => ∃ a : List (List Nat), v = tS a ∧ Stm [] s' ∧ a.length ≤ 7) fun _ _ _ => False := by
    refine fn_wp rfl ?_
    unfold B__law_row
    simp
    refine wp_comp ?_
    obtain ⟨d, s1, e, h1, h2, h3⟩ := next_ok (m := 8) h (by omega) (by omega)
    change F__law_next _ _ = _ at e
    simp [e]
    rw [asI1_int h2 (by omega)]
    simp
    refine ⟨rfl, by unfold big; omega, fun k acc s => acc.length = k ∧ (∃ a : List (List Nat), acc = a.map .str) ∧ Stm [] s, ⟨rfl, ⟨[], rfl⟩, h1⟩, ?_, ?_⟩
    · rintro k acc s hk ⟨hl, ⟨a, rfl⟩, hs⟩
      obtain ⟨i, s2, e, h4, h5, h6⟩ := next_ok (m := 3) hs (by omega) (by omega)
      change F__law_next _ _ = _ at e
      simp [e]
      refine ⟨by unfold big; omega, ?_⟩
      have : i = 0 ∨ i = 1 ∨ i = 2 := by omega
      rcases this with rfl | rfl | rfl
      · simp [dIxE]
        exact ⟨by simpa using hl, ⟨a ++ [[97]], by simp⟩, h4⟩
      · simp [dIxE]
        exact ⟨by simpa using hl, ⟨a ++ [[97, 98]], by simp⟩, h4⟩
      · simp [dIxE]
        exact ⟨by simpa using hl, ⟨a ++ [[]], by simp⟩, h4⟩
    · rintro acc s' ⟨hl, ⟨a, rfl⟩, hs⟩
      refine ⟨by simp, ?_⟩
      exact ⟨a, rfl, hs, by simp at hl; omega⟩
  obtain ⟨v, s', e, a, rfl, h1, h2⟩ := key.ok
  exact ⟨a, s', e, h1, h2⟩
/-- what the law asks behind the drawing -/
def B_rest : M Fl :=
  (fSeq (fSet 5 (fCall F_change (fCons (fV 2) (fCons (fV 3) fNil))))
  (fSeq (fIf (fOrT (fTest (fBin dNe (fVB 5) (fCall F__law_smallest (fCons (fV 2) (fCons (fV 3) fNil))))) (fTest (fBin dNe (fBin dAdd (fBin dAdd (fCut (fVB 2) fNoPart (fPart (fIxB (fVB 5) (fC (.int 0))))) (fIxB (fVB 5) (fC (.int 2)))) (fCut (fVB 2) (fPart (fBin dAdd (fIxB (fVB 5) (fC (.int 0))) (fIxB (fVB 5) (fC (.int 1))))) fNoPart)) (fVB 3)))) (fRet (fC (.bl false))) (ret .nx))
  (fSeq (fFor (fRange asI1 (fCons (fBin dAdd (fCB gLen (fCons (fVB 2) fNil)) (fC (.int 1))) fNil)) (tName 6) (fFor (fRange asI1 (fCons (fBin dAdd (fBin dSub (fCB gLen (fCons (fVB 2) fNil)) (fVB 6)) (fC (.int 1))) fNil)) (tName 7) (fSeq (fSet 8 (fBin dSub (fCB gLen (fCons (fVB 3) fNil)) (fBin dSub (fCB gLen (fCons (fVB 2) fNil)) (fVB 7))))
  (fIf (fAndT (fTest (fBin dGe (fVB 8) (fC (.int 0)))) (fTest (fBin dEq (fBin dAdd (fBin dAdd (fCut (fVB 2) fNoPart (fPart (fVB 6))) (fCut (fVB 3) (fPart (fVB 6)) (fPart (fBin dAdd (fVB 6) (fVB 8))))) (fCut (fVB 2) (fPart (fBin dAdd (fVB 6) (fVB 7))) fNoPart)) (fVB 3)))) (fIf (fOrT (fTest (fBin dLt (fVB 7) (fIxB (fVB 5) (fC (.int 1))))) (fTest (fBin dLt (fVB 8) (fCB gLen (fCons (fIxB (fVB 5) (fC (.int 2))) fNil))))) (fRet (fC (.bl false))) (ret .nx)) (ret .nx)))))
  (fRet (fBin dEq (fCall F_change (fCons (fV 3) (fCons (fV 3) fNil))) (fTup (fCons (fCB gLen (fCons (fVB 3) fNil)) (fCons (fC (.int 0)) (fCons (fTup fNil) fNil)))))))))
theorem chg_pd (a b : List (List Nat)) : pd 60 (chg a b) = true := by
  unfold chg
  simp [pd_tup, pd_int, pd_str, ← List.map_drop]
theorem deq_chg (a b : List (List Nat)) : deq (chg a b) (chg a b) = true := by
  unfold chg
  rw [deq_tup]
  simp [deqL, deq_int, deq_tup, deqL_strs]
theorem body_ok {a b : List (List Nat)} {e0 e1 e4 e7 e8 : Option D} {s : List Ob} (ha : a.length ≤ 100) (hb : b.length ≤ 100) {k j : Nat} (hk : k < a.length + 1) (hj : j < a.length - k + 1) :
    Wp (fSeq (fSet 8 (fBin dSub (fCB gLen (fCons (fVB 3) fNil)) (fBin dSub (fCB gLen (fCons (fVB 2) fNil)) (fVB 7))))
  (fIf (fAndT (fTest (fBin dGe (fVB 8) (fC (.int 0)))) (fTest (fBin dEq (fBin dAdd (fBin dAdd (fCut (fVB 2) fNoPart (fPart (fVB 6))) (fCut (fVB 3) (fPart (fVB 6)) (fPart (fBin dAdd (fVB 6) (fVB 8))))) (fCut (fVB 2) (fPart (fBin dAdd (fVB 6) (fVB 7))) fNoPart)) (fVB 3)))) (fIf (fOrT (fTest (fBin dLt (fVB 7) (fIxB (fVB 5) (fC (.int 1))))) (fTest (fBin dLt (fVB 8) (fCB gLen (fCons (fIxB (fVB 5) (fC (.int 2))) fNil))))) (fRet (fC (.bl false))) (ret .nx)) (ret .nx)))
    ⟨[e0, e1, some (tS a), some (tS b), e4, some (chg a b), some (.int k), some (.int j), e8], s⟩ (fun f z => f = .nx ∧ ∃ e8, z = ⟨[e0, e1, some (tS a), some (tS b), e4, some (chg a b), some (.int k), some (.int j), e8], s⟩) NoE := by
  have h1 := en_left a b
  have h2 := en_right a b
  have h3 := ins_len a b
  have i1 : dIx (chg a b) (.int 1) = some (.int (a.length - sta a b - en a b)) := by unfold chg; simp
  have i2 : dIx (chg a b) (.int 2) = some (tS (ins a b)) := by unfold chg; simp
  refine wp_seq (fun z => z = ⟨[e0, e1, some (tS a), some (tS b), e4, some (chg a b), some (.int k), some (.int j), some (.int (b.length - (a.length - j)))], s⟩) (by simp) ?_
  rintro z rfl
  by_cases hm : (a.length : Int) ≤ b.length + j
  · obtain ⟨m, hm⟩ : ∃ m : Nat, m + a.length = b.length + j := ⟨b.length + j - a.length, by omega⟩
    have em : (b.length : Int) - ((a.length : Int) - (j : Int)) = (m : Int) := by omega
    obtain ⟨p, hp⟩ : ∃ p, p = k + m := ⟨_, rfl⟩
    obtain ⟨q, hq⟩ : ∃ q, q = k + j := ⟨_, rfl⟩
    have ek : (k : Int) + (m : Int) = (p : Int) := by omega
    have ej : (k : Int) + (j : Int) = (q : Int) := by omega
    have hq : (a.map D.str).take k ++ (((b.map D.str).drop k).take (p - k) ++ (a.map D.str).drop q) = (a.take k ++ (b.drop k).take (p - k) ++ a.drop q).map D.str := by simp
    rw [em]
    simp [ek, ej, hq, i1, i2, -List.map_append]
    refine ⟨by unfold big; omega, by unfold big; omega, ?_⟩
    intro e
    rw [← List.append_assoc, hp, show k + m - k = m by omega] at e
    have := least (a := a) (b := b) (st := k) (re := j) (m := m) (by omega) (by omega) (by rw [‹q = k + j›] at e; exact e)
    omega
  · simp
    intro hn
    omega
theorem chk_ok {a b : List (List Nat)} {e0 e1 e4 e6 e7 e8 : Option D} {s : List Ob} (ha : a.length ≤ 100) (hb : b.length ≤ 100) :
    Wp (fIf (fOrT (fTest (fBin dNe (fVB 5) (fCall F__law_smallest (fCons (fV 2) (fCons (fV 3) fNil))))) (fTest (fBin dNe (fBin dAdd (fBin dAdd (fCut (fVB 2) fNoPart (fPart (fIxB (fVB 5) (fC (.int 0))))) (fIxB (fVB 5) (fC (.int 2)))) (fCut (fVB 2) (fPart (fBin dAdd (fIxB (fVB 5) (fC (.int 0))) (fIxB (fVB 5) (fC (.int 1))))) fNoPart)) (fVB 3)))) (fRet (fC (.bl false))) (ret .nx))
      ⟨[e0, e1, some (tS a), some (tS b), e4, some (chg a b), e6, e7, e8], s⟩ (fun f z => f = .nx ∧ z = ⟨[e0, e1, some (tS a), some (tS b), e4, some (chg a b), e6, e7, e8], s⟩) NoE := by
  have h1 := en_left a b
  have h2 := en_right a b
  have h3 := ins_len a b
  have i0 : dIx (chg a b) (.int 0) = some (.int (sta a b)) := by unfold chg; simp
  have i1 : dIx (chg a b) (.int 1) = some (.int (a.length - sta a b - en a b)) := by unfold chg; simp
  have i2 : dIx (chg a b) (.int 2) = some (tS (ins a b)) := by unfold chg; simp
  have eI : (sta a b : Int) + ((a.length : Int) - (sta a b : Int) - (en a b : Int)) = ((a.length - en a b : Nat) : Int) := by omega
  have hput : (a.map D.str).take (sta a b) ++ ((ins a b).map D.str ++ (a.map D.str).drop (a.length - en a b)) = b.map D.str := by
    rw [← List.map_take, ← List.map_drop, ← List.map_append, ← List.map_append, ← List.append_assoc]
    have := put_back a b
    rw [show sta a b + (a.length - sta a b - en a b) = a.length - en a b by omega] at this
    rw [this]
  simp [smallest_ok ha hb, dNe_of (chg_pd a b) (chg_pd a b), deq_chg, i0, i1, i2, eI, hput, h3]
  exact ⟨by unfold big; omega, by unfold big; omega⟩
theorem rest_ok {a b : List (List Nat)} {e0 e1 e4 : Option D} {s : List Ob} (ha : a.length ≤ 100) (hb : b.length ≤ 100) :
    Wp B_rest ⟨[e0, e1, some (tS a), some (tS b), e4, none, none, none, none], s⟩ (fun f z => f = .rt (.bl true)) NoE := by
  have h1 := en_left a b
  have h2 := en_right a b
  have h3 := ins_len a b
  unfold B_rest
  refine wp_seq (fun z => z = ⟨[e0, e1, some (tS a), some (tS b), e4, some (chg a b), none, none, none], s⟩) (by simp [change_ok ha hb]) ?_
  rintro z rfl
  refine wp_seq (fun z => z = ⟨[e0, e1, some (tS a), some (tS b), e4, some (chg a b), none, none, none], s⟩) (chk_ok ha hb) ?_
  intro z hz
  refine wp_seq (fun z => ∃ e6 e7 e8 : Option D, z = ⟨[e0, e1, some (tS a), some (tS b), e4, some (chg a b), e6, e7, e8], s⟩) ?_ ?_
  · subst hz
    simp
    rw [show (a.length : Int) + 1 = ((a.length + 1 : Nat) : Int) by omega, asI1_nat (by omega)]
    simp only [wp_lift_some]
    refine wp_forR (fun k z => ∃ e6 e7 e8, z = ⟨[e0, e1, some (tS a), some (tS b), e4, some (chg a b), e6, e7, e8], s⟩) ⟨none, none, none, rfl⟩ ?_ ?_
    · rintro k z hk ⟨e6, e7, e8, rfl⟩
      simp
      rw [asI1_int (by omega) (by omega)]
      simp only [wp_lift_some]
      refine wp_forR (fun j z => ∃ e7 e8, z = ⟨[e0, e1, some (tS a), some (tS b), e4, some (chg a b), some (.int k), e7, e8], s⟩) ⟨e7, e8, rfl⟩ ?_ ?_
      · rintro j z hj ⟨e7, e8, rfl⟩
        refine ⟨_, rfl, (body_ok (e7 := e7) (e8 := e8) ha hb hk (j := j) (by omega)).q ?_⟩
        rintro f z ⟨rfl, e8, rfl⟩
        exact ⟨_, _, rfl⟩
      · rintro z ⟨e7, e8, rfl⟩
        simp
    · rintro z ⟨e6, e7, e8, rfl⟩
      exact ⟨rfl, e6, e7, e8, rfl⟩
  rintro z ⟨e6, e7, e8, rfl⟩
  have hc : chg b b = .tup [.int b.length, .int 0, .tup []] := by
    have s1 : sta b b = b.length := lcp_self b
    have s2 : en b b = 0 := by unfold en; rw [s1]; simp [lcp]
    unfold chg ins
    rw [s1, s2]
    simp
  have hd : dEq (chg b b) (.tup [.int b.length, .int 0, .tup []]) = some (.bl true) := by
    rw [← hc, dEq_of (chg_pd b b) (chg_pd b b), deq_chg]
  simp [change_ok hb hb, hd]
  unfold big; omega
theorem law_true : ∀ ns : List Int, ns.length ≤ 63 → ∃ s, F_law [.obj 0] [.scr ns] = .ok (.bl true) s := by
  intro ns _
  have key : WpF (F_law [.obj 0] [.scr ns]) (fun v _ => v = .bl true) fun _ _ _ => False := by
    refine fn_wp rfl ?_
    unfold B_law
    have hs : F__law_stream [.obj 0] [.scr ns] = .ok (.obj 1) [.scr ns, .strm ns 0 0] := rfl
    refine wp_seq (fun z => z = ⟨[some (.obj 0), some (.obj 1), none, none, none, none, none, none, none], [.scr ns, .strm ns 0 0]⟩) (by simp [hs]) ?_
    rintro z rfl
    obtain ⟨a, s1, e1, h1, ha⟩ := row_ok (s := [.scr ns, .strm ns 0 0]) ⟨ns, 0, 0, by omega, rfl⟩
    obtain ⟨b, s2, e2, h2, hb⟩ := row_ok h1
    refine wp_seq (fun z => z = ⟨[some (.obj 0), some (.obj 1), some (tS a), none, none, none, none, none, none], s1⟩) (by simp [e1]) ?_
    rintro z rfl
    refine wp_seq (fun z => z = ⟨[some (.obj 0), some (.obj 1), some (tS a), some (tS b), none, none, none, none, none], s2⟩) (by simp [e2]) ?_
    rintro z rfl
    refine wp_seq (fun z => ∃ (c : List (List Nat)) (e4 : Option D) (s : List Ob), c.length ≤ 100 ∧ z = ⟨[some (.obj 0), some (.obj 1), some (tS a), some (tS c), e4, none, none, none, none], s⟩) ?_ ?_
    · obtain ⟨d3, s3, e3, h3, h31, h32⟩ := next_ok (m := 3) h2 (by omega) (by omega)
      change F__law_next _ _ = _ at e3
      simp [e3]
      by_cases hd : 0 < d3
      · rw [if_pos hd]
        obtain ⟨d4, s4, e4, h4, h41, h42⟩ := next_ok (m := a.length + 1) h3 (by omega) (by omega)
        change F__law_next _ _ = _ at e4
        obtain ⟨d5, s5, e5, h5, h51, h52⟩ := next_ok (m := 3) h4 (by omega) (by omega)
        change F__law_next _ _ = _ at e5
        simp [e4, e5, cut_to h41, cut_from (show 0 ≤ d4 + d5 by omega), cut_to (show (0 : Int) ≤ 2 by omega)]
        refine ⟨by unfold big; omega, by unfold big; omega, a.take d4.toNat ++ (b.take 2 ++ a.drop (d4 + d5).toNat), by simp; omega, by simp⟩
      · rw [if_neg hd]
        exact ⟨b, by omega, rfl⟩
    · rintro z ⟨c, e4, s, hc, rfl⟩
      refine (rest_ok (by omega) hc).q ?_
      rintro f z rfl
      rfl
  obtain ⟨d, s, e, rfl⟩ := key.ok
  exact ⟨s, e⟩
end Law
namespace Law
open PySem L2 G
def top (i : Nat) : Stmt := PySem.Challenge.pw_greedycuts_k78_whole_smallest_changes.main.body.getD i (.Pass ⟨0, 0, 0, 0⟩)
abbrev s_is_row : Stmt := top 5
abbrev s_alike_ahead : Stmt := top 6
abbrev s_change_of : Stmt := top 7
abbrev s_change : Stmt := top 8
abbrev s__law_stream : Stmt := top 10
abbrev s__law_next : Stmt := top 11
abbrev s__law_row : Stmt := top 12
abbrev s__law_smallest : Stmt := top 13
abbrev s_law : Stmt := top 14
abbrev s_ini_BadValue : Stmt := inClass (top 2) 0
theorem sc_is_row : FnScope ["value", "part"] ["value"] (defScope s_is_row) := ⟨rfl, rfl, rfl, by decide +kernel, rfl, by decide +kernel, by decide +kernel⟩
theorem sc_alike_ahead : FnScope ["old", "new", "many"] ["old", "new"] (defScope s_alike_ahead) := ⟨rfl, rfl, rfl, by decide +kernel, rfl, by decide +kernel, by decide +kernel⟩
theorem sc_change_of : FnScope ["old", "new", "start", "end"] ["old", "new"] (defScope s_change_of) := ⟨rfl, rfl, rfl, by decide +kernel, rfl, by decide +kernel, by decide +kernel⟩
theorem sc_change : FnScope ["old", "new"] ["old", "new"] (defScope s_change) := ⟨rfl, rfl, rfl, by decide +kernel, rfl, by decide +kernel, by decide +kernel⟩
theorem sc__law_stream : FnScope ["_law_script"] ["_law_script"] (defScope s__law_stream) := ⟨rfl, rfl, rfl, by decide +kernel, rfl, by decide +kernel, by decide +kernel⟩
theorem sc__law_next : FnScope ["_law_stream_here", "_law_many", "_law_k", "_law_cell", "_law_digit"] ["_law_stream_here", "_law_many"] (defScope s__law_next) := ⟨rfl, rfl, rfl, by decide +kernel, rfl, by decide +kernel, by decide +kernel⟩
theorem sc__law_row : FnScope ["_law_stream_here", "_law_k"] ["_law_stream_here"] (defScope s__law_row) := ⟨rfl, rfl, rfl, by decide +kernel, rfl, by decide +kernel, by decide +kernel⟩
theorem sc__law_smallest : FnScope ["_law_old", "_law_new", "_law_start", "_law_k", "_law_end"] ["_law_old", "_law_new"] (defScope s__law_smallest) := ⟨rfl, rfl, rfl, by decide +kernel, rfl, by decide +kernel, by decide +kernel⟩
theorem sc_law : FnScope ["_law_script", "_law_stream_here", "_law_old", "_law_new", "_law_at", "_law_told", "_law_start", "_law_removed", "_law_many"] ["_law_script"] (defScope s_law) := ⟨rfl, rfl, rfl, by decide +kernel, rfl, by decide +kernel, by decide +kernel⟩
structure Txt (K : PySem.W.Frag) (mg : Str → Option Value) : Prop where
  m_abs : mg "abs" = none
  m_all : mg "all" = none
  m_int : mg "int" = none
  m_isinstance : mg "isinstance" = none
  m_len : mg "len" = none
  m_list : mg "list" = none
  m_min : mg "min" = none
  m_range : mg "range" = none
  m_str : mg "str" = none
  m_tuple : mg "tuple" = none
  g_MOST_ROW : ∃ t, mg "MOST_ROW" = some (.int 100 t)
section
variable {Pg : Program} {w : World} {mg : Str → Option Value} {base : Heap} {P : Par}
theorem ok_is_row {f : Addr} {fd : FuncData} (F : Fun P.K "is_row" "is_row" s_is_row f fd) (T : Txt P.K mg) : FnOk Pg w P.K mg base (L2.CX Pg w) 1 f fd ["value"] (spFn P 1 F_is_row) :=
  fn_ok (k := 0) F sc_is_row fun cdv A outer s H E hr => (jss_one (js_ret (j_and (j_isi (by rfl) T.m_isinstance (by rfl) T.m_tuple (by decide +kernel) (by decide +kernel) (j_vb (i := 0) rfl (.inl rfl))) (j_and (j_cmp op_leD opd_le (JE.jb (j_callB call_len cd_len (by rfl) T.m_len (by decide +kernel) (jbs_cons (j_vb (i := 0) rfl (.inl rfl)) jbs_nil))) (JE.jb (j_gint (by rfl) T.g_MOST_ROW)) (nomark _)) (j_one (j_callB (cr_all rfl) cd_all (by rfl) T.m_all (by decide +kernel) (jbs_cons (JE.jb (j_lc (own := [("part", 1)]) rfl sc_is_row.nd (ji_seq (j_v (i := 0) rfl (.inl rfl))) (by kernel_rfl) (by decide) (fun _ _ _ _ _ => (jg_name sc_is_row.nd rfl (.inl rfl))) (fun _ _ _ _ _ => jts_nil) (fun _ _ _ _ _ => (j_isi (by rfl) T.m_isinstance (by rfl) T.m_str (by decide +kernel) (by decide +kernel) (j_vb (i := 1) rfl (.inl rfl)))))) jbs_nil)))))))
theorem ok_alike_ahead {f : Addr} {fd : FuncData} (F : Fun P.K "alike_ahead" "alike_ahead" s_alike_ahead f fd) (T : Txt P.K mg) : FnOk Pg w P.K mg base (L2.CX Pg w) 1 f fd ["old", "new"] (spFn P 2 F_alike_ahead) :=
  fn_ok (k := 0) F sc_alike_ahead fun cdv A outer s H E hr => (jss_cons (js_set sc_alike_ahead.nd rfl (.inl rfl) j_int)
  (jss_cons (js_while FUEL po_def (JW.t (jw_and (jt_cmp op_ltD opd_lt (j_vb (i := 2) rfl (.inl rfl)) (JE.jb (j_callB (call_min2 rfl) cd_min2 (by rfl) T.m_min (by decide +kernel) (jbs_cons (JE.jb (j_callB call_len cd_len (by rfl) T.m_len (by decide +kernel) (jbs_cons (j_vb (i := 0) rfl (.inl rfl)) jbs_nil))) (jbs_cons (JE.jb (j_callB call_len cd_len (by rfl) T.m_len (by decide +kernel) (jbs_cons (j_vb (i := 1) rfl (.inl rfl)) jbs_nil))) jbs_nil)))) (nomark _)) (jw_and1 (jt_cmp (op_eqD (hu64 hr)) opd_eq (j_ixB (j_vb (i := 0) rfl (.inl rfl)) (j_vb (i := 2) rfl (.inl rfl)) (fun _ _ => rfl)) (j_ixB (j_vb (i := 1) rfl (.inl rfl)) (j_vb (i := 2) rfl (.inl rfl)) (fun _ _ => rfl)) (nomark _))))) (jss_one (js_set sc_alike_ahead.nd rfl (.inl rfl) (j_bin op_addD opd_add (j_vb (i := 2) rfl (.inl rfl)) (JE.jb j_int)))))
  (jss_one (js_retV (i := 2) rfl (.inl rfl)))))
theorem ok_change_of {f : Addr} {fd : FuncData} (F : Fun P.K "change_of" "change_of" s_change_of f fd) (T : Txt P.K mg) (C_alike_ahead : FnG Pg w mg base P "alike_ahead" 1 2 F_alike_ahead) : FnOk Pg w P.K mg base (L2.CX Pg w) 2 f fd ["old", "new"] (spFn P 2 F_change_of) :=
  fn_ok (k := 1) F sc_change_of fun cdv A outer s H E hr => (jss_cons (js_set sc_change_of.nd rfl (.inl rfl) (j_call ⟨C_alike_ahead.ex⟩ tk_def (hr.mono (by decide)) (by rfl) (jes_cons (j_v (i := 0) rfl (.inl rfl)) (jes_cons (j_v (i := 1) rfl (.inl rfl)) jes_nil)) (hl := (len_cons (len_cons len_nil)))))
  (jss_cons (js_set sc_change_of.nd rfl (.inl rfl) (j_call ⟨C_alike_ahead.ex⟩ tk_def (hr.mono (by decide)) (by rfl) (jes_cons (j_rev (JE.jb (j_cut (j_vb (i := 0) rfl (.inl rfl)) (jo_some (j_vb (i := 2) rfl (.inl rfl))) jo_none))) (jes_cons (j_rev (JE.jb (j_cut (j_vb (i := 1) rfl (.inl rfl)) (jo_some (j_vb (i := 2) rfl (.inl rfl))) jo_none))) jes_nil)) (hl := (len_cons (len_cons len_nil)))))
  (jss_one (js_ret (j_tup (jes_cons (j_v (i := 2) rfl (.inl rfl)) (jes_cons (j_bin op_sub opd_sub (JE.jb (j_bin op_sub opd_sub (JE.jb (j_callB call_len cd_len (by rfl) T.m_len (by decide +kernel) (jbs_cons (j_vb (i := 0) rfl (.inl rfl)) jbs_nil))) (j_vb (i := 2) rfl (.inl rfl)))) (j_vb (i := 3) rfl (.inl rfl))) (jes_cons (j_cut (j_vb (i := 1) rfl (.inl rfl)) (jo_some (j_vb (i := 2) rfl (.inl rfl))) (jo_some (JE.jb (j_bin op_sub opd_sub (JE.jb (j_callB call_len cd_len (by rfl) T.m_len (by decide +kernel) (jbs_cons (j_vb (i := 1) rfl (.inl rfl)) jbs_nil))) (j_vb (i := 3) rfl (.inl rfl)))))) jes_nil))))))))
theorem ok_change {f : Addr} {fd : FuncData} (F : Fun P.K "change" "change" s_change f fd) (T : Txt P.K mg) (C_change_of : FnG Pg w mg base P "change_of" 2 2 F_change_of) (C_is_row : FnG Pg w mg base P "is_row" 1 1 F_is_row) (X_BadValue : ExcG Pg w mg base P "BadValue" "BadValue" "name") : FnOk Pg w P.K mg base (L2.CX Pg w) 3 f fd ["old", "new"] (spFn P 2 F_change) :=
  fn_ok (k := 2) F sc_change fun cdv A outer s H E hr => (jss_cons (js_if (jt_not (jt_truth (JE.jb (j_call ⟨C_is_row.ex⟩ tk_def (hr.mono (by decide)) (by rfl) (jes_cons (j_v (i := 0) rfl (.inl rfl)) jes_nil) (hl := (len_cons len_nil)))))) (jss_one (js_raise rfl ⟨X_BadValue.ex, rfl⟩ tk_def (hr.mono (by decide)) (by rfl) (jes_cons (j_str (by decide +kernel) (by decide)) jes_nil) (hl := (len_cons len_nil)))) jss_nil)
  (jss_cons (js_if (jt_not (jt_truth (JE.jb (j_call ⟨C_is_row.ex⟩ tk_def (hr.mono (by decide)) (by rfl) (jes_cons (j_v (i := 1) rfl (.inl rfl)) jes_nil) (hl := (len_cons len_nil)))))) (jss_one (js_raise rfl ⟨X_BadValue.ex, rfl⟩ tk_def (hr.mono (by decide)) (by rfl) (jes_cons (j_str (by decide +kernel) (by decide)) jes_nil) (hl := (len_cons len_nil)))) jss_nil)
  (jss_one (js_ret (j_call ⟨C_change_of.ex⟩ tk_def (hr.mono (by decide)) (by rfl) (jes_cons (j_v (i := 0) rfl (.inl rfl)) (jes_cons (j_v (i := 1) rfl (.inl rfl)) jes_nil)) (hl := (len_cons (len_cons len_nil))))))))
theorem ok__law_stream {f : Addr} {fd : FuncData} (F : Fun P.K "_law_stream" "_law_stream" s__law_stream f fd) (T : Txt P.K mg) : FnOk Pg w P.K mg base (L2.CX Pg w) 1 f fd ["_law_script"] (spFn P 1 F__law_stream) :=
  fn_ok (k := 0) F sc__law_stream fun cdv A outer s H E hr => (jss_one (js_strm (i := 0) rfl rfl (.inl rfl) (by rfl) T.m_list))
theorem ok__law_next {f : Addr} {fd : FuncData} (F : Fun P.K "_law_next" "_law_next" s__law_next f fd) (T : Txt P.K mg) : FnOk Pg w P.K mg base (L2.CX Pg w) 1 f fd ["_law_stream_here", "_law_many"] (spFn P 2 F__law_next) :=
  fn_ok (k := 0) F sc__law_next fun cdv A outer s H E hr => (jss_cons (js_if (jt_cmp (op_eqD (hu64 hr)) opd_eq (JE.jb (j_ixO (j_vb (i := 0) rfl (.inl rfl)) (JE.jb j_int) (fun _ _ => rfl))) (JE.jb j_int) (nomark _)) (jss_cons (js_set sc__law_next.nd rfl (.inl rfl) (j_ixO (j_vb (i := 0) rfl (.inl rfl)) (JE.jb j_int) (fun _ _ => rfl)))
  (jss_cons (js_set sc__law_next.nd rfl (.inl rfl) (j_bin op_addD opd_add (JE.jb j_int) (j_vb (i := 2) rfl (.inl rfl))))
  (jss_cons (js_if (jt_cmp op_ltD opd_lt (j_vb (i := 2) rfl (.inl rfl)) (JE.jb (j_callB call_len cd_len (by rfl) T.m_len (by decide +kernel) (jbs_cons (JE.jb (j_ixO (j_vb (i := 0) rfl (.inl rfl)) (JE.jb j_int) (fun _ _ => rfl))) jbs_nil))) (nomark _)) (jss_one (js_set sc__law_next.nd rfl (.inl rfl) (j_callB call_abs cd_abs (by rfl) T.m_abs (by decide +kernel) (jbs_cons (j_ixB (JE.jb (j_ixO (j_vb (i := 0) rfl (.inl rfl)) (JE.jb j_int) (fun _ _ => rfl))) (j_vb (i := 2) rfl (.inl rfl)) (fun _ _ => rfl)) jbs_nil)))) jss_nil)
  (jss_cons (js_if (jt_cmp op_ltD opd_lt (j_vb (i := 3) rfl (.inl rfl)) (JE.jb (j_bin op_pow opd_pow (JE.jb j_int) (JE.jb j_int))) (nomark _)) (jss_cons (js_set sc__law_next.nd rfl (.inl rfl) (j_bin op_mod opd_mod (JE.jb (j_callTy call_int1 cd_int (by rfl) T.m_int (by decide +kernel) (jbs_cons (JE.jb (j_bin op_addD opd_add (JE.jb (j_bin op_addD opd_add (JE.jb (j_bin op_mulD opd_mul (j_vb (i := 3) rfl (.inl rfl)) (JE.jb j_int))) (JE.jb (j_bin op_mulD opd_mul (j_vb (i := 2) rfl (.inl rfl)) (JE.jb j_int))))) (JE.jb j_int))) jbs_nil))) (JE.jb j_int)))
  (jss_one (js_set sc__law_next.nd rfl (.inl rfl) (j_bin op_addD opd_add (JE.jb (j_bin op_mulD opd_mul (JE.jb (j_bin op_mod opd_mod (JE.jb (j_callTy call_int1 cd_int (by rfl) T.m_int (by decide +kernel) (jbs_cons (JE.jb (j_bin op_addD opd_add (JE.jb (j_bin op_mulD opd_mul (j_vb (i := 3) rfl (.inl rfl)) (JE.jb j_int))) (JE.jb j_int))) jbs_nil))) (JE.jb j_int))) (JE.jb j_int))) (j_vb (i := 3) rfl (.inl rfl)))))) jss_nil)
  (jss_cons (js_setO (j_v (i := 3) rfl (.inl rfl)) (j_vb (i := 0) rfl (.inl rfl)) (JE.jb j_int) (hg := fun pa pb => pg_sub pa pb set_list))
  (jss_one (js_setO (j_bin op_addD opd_add (j_vb (i := 2) rfl (.inl rfl)) (JE.jb j_int)) (j_vb (i := 0) rfl (.inl rfl)) (JE.jb j_int) (hg := fun pa pb => pg_sub pa pb set_list)))))))) jss_nil)
  (jss_cons (js_set sc__law_next.nd rfl (.inl rfl) (j_bin op_mod opd_mod (JE.jb (j_callTy call_int1 cd_int (by rfl) T.m_int (by decide +kernel) (jbs_cons (JE.jb (j_ixO (j_vb (i := 0) rfl (.inl rfl)) (JE.jb j_int) (fun _ _ => rfl))) jbs_nil))) (j_vb (i := 1) rfl (.inl rfl))))
  (jss_cons (js_setO (j_bin op_fdiv opd_div (JE.jb (j_ixO (j_vb (i := 0) rfl (.inl rfl)) (JE.jb j_int) (fun _ _ => rfl))) (j_vb (i := 1) rfl (.inl rfl))) (j_vb (i := 0) rfl (.inl rfl)) (JE.jb j_int) (hg := fun pa pb => pg_sub pa pb set_list))
  (jss_one (js_retV (i := 4) rfl (.inl rfl))))))
theorem ok__law_row {f : Addr} {fd : FuncData} (F : Fun P.K "_law_row" "_law_row" s__law_row f fd) (T : Txt P.K mg) (C__law_next : FnG Pg w mg base P "_law_next" 1 2 F__law_next) : FnOk Pg w P.K mg base (L2.CX Pg w) 2 f fd ["_law_stream_here"] (spFn P 1 F__law_row) :=
  fn_ok (k := 1) F sc__law_row fun cdv A outer s H E hr => (jss_one (js_ret (j_callTy call_tuple_of cd_tuple (by rfl) T.m_tuple (by decide +kernel) (jbs_cons (JE.jb (j_lc (own := [("_law_k", 1)]) rfl sc__law_row.nd (ji_range1 (by rfl) T.m_range (jbs_cons (JE.jb (j_call ⟨C__law_next.ex⟩ tk_def (hr.mono (by decide)) (by rfl) (jes_cons (j_v (i := 0) rfl (.inr (.inl rfl))) (jes_cons j_int jes_nil)) (hl := (len_cons (len_cons len_nil))))) jbs_nil)) (by kernel_rfl) (by decide) (fun _ _ _ _ _ => (jg_name sc__law_row.nd rfl (.inl rfl))) (fun _ _ _ _ _ => jts_nil) (fun _ _ _ _ _ => (j_ix (JE.jb (j_lst (jes_cons (j_str (by decide +kernel) (by decide)) (jes_cons (j_str (by decide +kernel) (by decide)) (jes_cons (j_str (by decide +kernel) (by decide)) jes_nil))))) (JE.jb (j_call ⟨C__law_next.ex⟩ takes0 (hr.mono (by decide)) (by rfl) (jes_cons (j_v (i := 0) rfl (.inr (.inl rfl))) (jes_cons j_int jes_nil)) (hl := (len_cons (len_cons len_nil))))) (fun _ _ => rfl))))) jbs_nil))))
theorem ok__law_smallest {f : Addr} {fd : FuncData} (F : Fun P.K "_law_smallest" "_law_smallest" s__law_smallest f fd) (T : Txt P.K mg) : FnOk Pg w P.K mg base (L2.CX Pg w) 1 f fd ["_law_old", "_law_new"] (spFn P 2 F__law_smallest) :=
  fn_ok (k := 0) F sc__law_smallest fun cdv A outer s H E hr => (jss_cons (js_set sc__law_smallest.nd rfl (.inl rfl) j_int)
  (jss_cons (js_for po_def rfl (ji_range1 (by rfl) T.m_range (jbs_cons (JE.jb (j_callB (call_min2 rfl) cd_min2 (by rfl) T.m_min (by decide +kernel) (jbs_cons (JE.jb (j_callB call_len cd_len (by rfl) T.m_len (by decide +kernel) (jbs_cons (j_vb (i := 0) rfl (.inl rfl)) jbs_nil))) (jbs_cons (JE.jb (j_callB call_len cd_len (by rfl) T.m_len (by decide +kernel) (jbs_cons (j_vb (i := 1) rfl (.inl rfl)) jbs_nil))) jbs_nil)))) jbs_nil)) (jg_name sc__law_smallest.nd rfl (.inl rfl)) (jss_one (js_if (JW.t (jw_and (jt_cmp (op_eqD (hu64 hr)) opd_eq (j_vb (i := 2) rfl (.inl rfl)) (j_vb (i := 3) rfl (.inl rfl)) (nomark _)) (jw_and1 (jt_cmp (op_eqD (hu64 hr)) opd_eq (j_ixB (j_vb (i := 0) rfl (.inl rfl)) (j_vb (i := 3) rfl (.inl rfl)) (fun _ _ => rfl)) (j_ixB (j_vb (i := 1) rfl (.inl rfl)) (j_vb (i := 3) rfl (.inl rfl)) (fun _ _ => rfl)) (nomark _))))) (jss_one (js_set sc__law_smallest.nd rfl (.inl rfl) (j_bin op_addD opd_add (j_vb (i := 3) rfl (.inl rfl)) (JE.jb j_int)))) jss_nil)))
  (jss_cons (js_set sc__law_smallest.nd rfl (.inl rfl) j_int)
  (jss_cons (js_for po_def rfl (ji_range2 (by rfl) T.m_range (jbs_cons (JE.jb j_int) (jbs_cons (JE.jb (j_bin op_addD opd_add (JE.jb (j_bin op_sub opd_sub (JE.jb (j_callB (call_min2 rfl) cd_min2 (by rfl) T.m_min (by decide +kernel) (jbs_cons (JE.jb (j_callB call_len cd_len (by rfl) T.m_len (by decide +kernel) (jbs_cons (j_vb (i := 0) rfl (.inl rfl)) jbs_nil))) (jbs_cons (JE.jb (j_callB call_len cd_len (by rfl) T.m_len (by decide +kernel) (jbs_cons (j_vb (i := 1) rfl (.inl rfl)) jbs_nil))) jbs_nil)))) (j_vb (i := 2) rfl (.inl rfl)))) (JE.jb j_int))) jbs_nil))) (jg_name sc__law_smallest.nd rfl (.inl rfl)) (jss_one (js_if (JW.t (jw_and (jt_cmp (op_eqD (hu64 hr)) opd_eq (j_vb (i := 4) rfl (.inl rfl)) (JE.jb (j_bin op_sub opd_sub (j_vb (i := 3) rfl (.inl rfl)) (JE.jb j_int))) (nomark _)) (jw_and1 (jt_cmp (op_eqD (hu64 hr)) opd_eq (j_ixB (j_vb (i := 0) rfl (.inl rfl)) (JE.jb (j_bin op_sub opd_sub (JE.jb (j_callB call_len cd_len (by rfl) T.m_len (by decide +kernel) (jbs_cons (j_vb (i := 0) rfl (.inl rfl)) jbs_nil))) (j_vb (i := 3) rfl (.inl rfl)))) (fun _ _ => rfl)) (j_ixB (j_vb (i := 1) rfl (.inl rfl)) (JE.jb (j_bin op_sub opd_sub (JE.jb (j_callB call_len cd_len (by rfl) T.m_len (by decide +kernel) (jbs_cons (j_vb (i := 1) rfl (.inl rfl)) jbs_nil))) (j_vb (i := 3) rfl (.inl rfl)))) (fun _ _ => rfl)) (nomark _))))) (jss_one (js_set sc__law_smallest.nd rfl (.inl rfl) (j_v (i := 3) rfl (.inl rfl)))) jss_nil)))
  (jss_one (js_ret (j_tup (jes_cons (j_v (i := 2) rfl (.inl rfl)) (jes_cons (j_bin op_sub opd_sub (JE.jb (j_bin op_sub opd_sub (JE.jb (j_callB call_len cd_len (by rfl) T.m_len (by decide +kernel) (jbs_cons (j_vb (i := 0) rfl (.inl rfl)) jbs_nil))) (j_vb (i := 2) rfl (.inl rfl)))) (j_vb (i := 4) rfl (.inl rfl))) (jes_cons (j_cut (j_vb (i := 1) rfl (.inl rfl)) (jo_some (j_vb (i := 2) rfl (.inl rfl))) (jo_some (JE.jb (j_bin op_sub opd_sub (JE.jb (j_callB call_len cd_len (by rfl) T.m_len (by decide +kernel) (jbs_cons (j_vb (i := 1) rfl (.inl rfl)) jbs_nil))) (j_vb (i := 4) rfl (.inl rfl)))))) jes_nil))))))))))
theorem ok_law {f : Addr} {fd : FuncData} (F : Fun P.K "law" "law" s_law f fd) (T : Txt P.K mg) (C__law_next : FnG Pg w mg base P "_law_next" 1 2 F__law_next) (C__law_row : FnG Pg w mg base P "_law_row" 2 1 F__law_row) (C__law_smallest : FnG Pg w mg base P "_law_smallest" 1 2 F__law_smallest) (C__law_stream : FnG Pg w mg base P "_law_stream" 1 1 F__law_stream) (C_change : FnG Pg w mg base P "change" 3 2 F_change) : FnOk Pg w P.K mg base (L2.CX Pg w) 4 f fd ["_law_script"] (spFn P 1 F_law) :=
  fn_ok (k := 3) F sc_law fun cdv A outer s H E hr => (jss_cons (js_set sc_law.nd rfl (.inl rfl) (j_call ⟨C__law_stream.ex⟩ tk_def (hr.mono (by decide)) (by rfl) (jes_cons (j_v (i := 0) rfl (.inl rfl)) jes_nil) (hl := (len_cons len_nil))))
  (jss_cons (js_set sc_law.nd rfl (.inl rfl) (j_call ⟨C__law_row.ex⟩ tk_def (hr.mono (by decide)) (by rfl) (jes_cons (j_v (i := 1) rfl (.inl rfl)) jes_nil) (hl := (len_cons len_nil))))
  (jss_cons (js_set sc_law.nd rfl (.inl rfl) (j_call ⟨C__law_row.ex⟩ tk_def (hr.mono (by decide)) (by rfl) (jes_cons (j_v (i := 1) rfl (.inl rfl)) jes_nil) (hl := (len_cons len_nil))))
  (jss_cons (js_if (jt_cmp op_gtD opd_gt (JE.jb (j_call ⟨C__law_next.ex⟩ tk_def (hr.mono (by decide)) (by rfl) (jes_cons (j_v (i := 1) rfl (.inl rfl)) (jes_cons j_int jes_nil)) (hl := (len_cons (len_cons len_nil))))) (JE.jb j_int) (nomark _)) (jss_cons (js_set sc_law.nd rfl (.inl rfl) (j_call ⟨C__law_next.ex⟩ tk_def (hr.mono (by decide)) (by rfl) (jes_cons (j_v (i := 1) rfl (.inl rfl)) (jes_cons (j_bin op_addD opd_add (JE.jb (j_callB call_len cd_len (by rfl) T.m_len (by decide +kernel) (jbs_cons (j_vb (i := 2) rfl (.inl rfl)) jbs_nil))) (JE.jb j_int)) jes_nil)) (hl := (len_cons (len_cons len_nil)))))
  (jss_one (js_set sc_law.nd rfl (.inl rfl) (j_bin op_addD opd_add (JE.jb (j_bin op_addD opd_add (JE.jb (j_cut (j_vb (i := 2) rfl (.inl rfl)) jo_none (jo_some (j_vb (i := 4) rfl (.inl rfl))))) (JE.jb (j_cut (j_vb (i := 3) rfl (.inl rfl)) jo_none (jo_some (JE.jb j_int)))))) (JE.jb (j_cut (j_vb (i := 2) rfl (.inl rfl)) (jo_some (JE.jb (j_bin op_addD opd_add (j_vb (i := 4) rfl (.inl rfl)) (JE.jb (j_call ⟨C__law_next.ex⟩ tk_def (hr.mono (by decide)) (by rfl) (jes_cons (j_v (i := 1) rfl (.inl rfl)) (jes_cons j_int jes_nil)) (hl := (len_cons (len_cons len_nil)))))))) jo_none)))))) jss_nil)
  (jss_cons (js_set sc_law.nd rfl (.inl rfl) (j_call ⟨C_change.ex⟩ tk_def (hr.mono (by decide)) (by rfl) (jes_cons (j_v (i := 2) rfl (.inl rfl)) (jes_cons (j_v (i := 3) rfl (.inl rfl)) jes_nil)) (hl := (len_cons (len_cons len_nil)))))
  (jss_cons (js_if (JW.t (jw_or (jt_cmp (op_neD (hu64 hr)) opd_ne (j_vb (i := 5) rfl (.inl rfl)) (JE.jb (j_call ⟨C__law_smallest.ex⟩ tk_def (hr.mono (by decide)) (by rfl) (jes_cons (j_v (i := 2) rfl (.inl rfl)) (jes_cons (j_v (i := 3) rfl (.inl rfl)) jes_nil)) (hl := (len_cons (len_cons len_nil))))) (nomark _)) (jw_or1 (jt_cmp (op_neD (hu64 hr)) opd_ne (JE.jb (j_bin op_addD opd_add (JE.jb (j_bin op_addD opd_add (JE.jb (j_cut (j_vb (i := 2) rfl (.inl rfl)) jo_none (jo_some (j_ixB (j_vb (i := 5) rfl (.inl rfl)) (JE.jb j_int) (fun _ _ => rfl))))) (j_ixB (j_vb (i := 5) rfl (.inl rfl)) (JE.jb j_int) (fun _ _ => rfl)))) (JE.jb (j_cut (j_vb (i := 2) rfl (.inl rfl)) (jo_some (JE.jb (j_bin op_addD opd_add (j_ixB (j_vb (i := 5) rfl (.inl rfl)) (JE.jb j_int) (fun _ _ => rfl)) (j_ixB (j_vb (i := 5) rfl (.inl rfl)) (JE.jb j_int) (fun _ _ => rfl))))) jo_none)))) (j_vb (i := 3) rfl (.inl rfl)) (nomark _))))) (jss_one (js_ret j_bl)) jss_nil)
  (jss_cons (js_for po_def rfl (ji_range1 (by rfl) T.m_range (jbs_cons (JE.jb (j_bin op_addD opd_add (JE.jb (j_callB call_len cd_len (by rfl) T.m_len (by decide +kernel) (jbs_cons (j_vb (i := 2) rfl (.inl rfl)) jbs_nil))) (JE.jb j_int))) jbs_nil)) (jg_name sc_law.nd rfl (.inl rfl)) (jss_one (js_for po_def rfl (ji_range1 (by rfl) T.m_range (jbs_cons (JE.jb (j_bin op_addD opd_add (JE.jb (j_bin op_sub opd_sub (JE.jb (j_callB call_len cd_len (by rfl) T.m_len (by decide +kernel) (jbs_cons (j_vb (i := 2) rfl (.inl rfl)) jbs_nil))) (j_vb (i := 6) rfl (.inl rfl)))) (JE.jb j_int))) jbs_nil)) (jg_name sc_law.nd rfl (.inl rfl)) (jss_cons (js_set sc_law.nd rfl (.inl rfl) (j_bin op_sub opd_sub (JE.jb (j_callB call_len cd_len (by rfl) T.m_len (by decide +kernel) (jbs_cons (j_vb (i := 3) rfl (.inl rfl)) jbs_nil))) (JE.jb (j_bin op_sub opd_sub (JE.jb (j_callB call_len cd_len (by rfl) T.m_len (by decide +kernel) (jbs_cons (j_vb (i := 2) rfl (.inl rfl)) jbs_nil))) (j_vb (i := 7) rfl (.inl rfl))))))
  (jss_one (js_if (JW.t (jw_and (jt_cmp op_geD opd_ge (j_vb (i := 8) rfl (.inl rfl)) (JE.jb j_int) (nomark _)) (jw_and1 (jt_cmp (op_eqD (hu64 hr)) opd_eq (JE.jb (j_bin op_addD opd_add (JE.jb (j_bin op_addD opd_add (JE.jb (j_cut (j_vb (i := 2) rfl (.inl rfl)) jo_none (jo_some (j_vb (i := 6) rfl (.inl rfl))))) (JE.jb (j_cut (j_vb (i := 3) rfl (.inl rfl)) (jo_some (j_vb (i := 6) rfl (.inl rfl))) (jo_some (JE.jb (j_bin op_addD opd_add (j_vb (i := 6) rfl (.inl rfl)) (j_vb (i := 8) rfl (.inl rfl))))))))) (JE.jb (j_cut (j_vb (i := 2) rfl (.inl rfl)) (jo_some (JE.jb (j_bin op_addD opd_add (j_vb (i := 6) rfl (.inl rfl)) (j_vb (i := 7) rfl (.inl rfl))))) jo_none)))) (j_vb (i := 3) rfl (.inl rfl)) (nomark _))))) (jss_one (js_if (JW.t (jw_or (jt_cmp op_ltD opd_lt (j_vb (i := 7) rfl (.inl rfl)) (j_ixB (j_vb (i := 5) rfl (.inl rfl)) (JE.jb j_int) (fun _ _ => rfl)) (nomark _)) (jw_or1 (jt_cmp op_ltD opd_lt (j_vb (i := 8) rfl (.inl rfl)) (JE.jb (j_callB call_len cd_len (by rfl) T.m_len (by decide +kernel) (jbs_cons (j_ixB (j_vb (i := 5) rfl (.inl rfl)) (JE.jb j_int) (fun _ _ => rfl)) jbs_nil))) (nomark _))))) (jss_one (js_ret j_bl)) jss_nil)) jss_nil))))))
  (jss_one (js_ret (j_cmp (op_eqD (hu64 hr)) opd_eq (JE.jb (j_call ⟨C_change.ex⟩ tk_def (hr.mono (by decide)) (by rfl) (jes_cons (j_v (i := 3) rfl (.inl rfl)) (jes_cons (j_v (i := 3) rfl (.inl rfl)) jes_nil)) (hl := (len_cons (len_cons len_nil))))) (JE.jb (j_tup (jes_cons (j_callB call_len cd_len (by rfl) T.m_len (by decide +kernel) (jbs_cons (j_vb (i := 3) rfl (.inl rfl)) jbs_nil)) (jes_cons j_int (jes_cons (j_tup jes_nil) jes_nil))))) (nomark _)))))))))))
end
theorem all_mk {Pg : Program} {w : World} {K : PySem.W.Frag} {h : Heap} {mg : Str → Option Value} {fa : Addr} (X : K.In h) (G0 : h.Ns mainGlobals mg) (hfa : mg "law" = some (.ref fa)) {f_is_row f_alike_ahead f_change_of f_change f__law_stream f__law_next f__law_row f__law_smallest f_law c_BadValue i_BadValue : Addr} {oc_is_row kV_is_row dc_is_row pm_is_row cd_is_row ct_is_row : Value} {od_is_row an_is_row : Option Addr} {sl_is_row : Array (Option Value)} {oc_alike_ahead kV_alike_ahead dc_alike_ahead pm_alike_ahead cd_alike_ahead ct_alike_ahead : Value} {od_alike_ahead an_alike_ahead : Option Addr} {sl_alike_ahead : Array (Option Value)} {oc_change_of kV_change_of dc_change_of pm_change_of cd_change_of ct_change_of : Value} {od_change_of an_change_of : Option Addr} {sl_change_of : Array (Option Value)} {oc_change kV_change dc_change pm_change cd_change ct_change : Value} {od_change an_change : Option Addr} {sl_change : Array (Option Value)} {oc__law_stream kV__law_stream dc__law_stream pm__law_stream cd__law_stream ct__law_stream : Value} {od__law_stream an__law_stream : Option Addr} {sl__law_stream : Array (Option Value)} {oc__law_next kV__law_next dc__law_next pm__law_next cd__law_next ct__law_next : Value} {od__law_next an__law_next : Option Addr} {sl__law_next : Array (Option Value)} {oc__law_row kV__law_row dc__law_row pm__law_row cd__law_row ct__law_row : Value} {od__law_row an__law_row : Option Addr} {sl__law_row : Array (Option Value)} {oc__law_smallest kV__law_smallest dc__law_smallest pm__law_smallest cd__law_smallest ct__law_smallest : Value} {od__law_smallest an__law_smallest : Option Addr} {sl__law_smallest : Array (Option Value)} {oc_law kV_law dc_law pm_law cd_law ct_law : Value} {od_law an_law : Option Addr} {sl_law : Array (Option Value)} {oc_ini_BadValue kV_ini_BadValue dc_ini_BadValue pm_ini_BadValue cd_ini_BadValue ct_ini_BadValue : Value} {od_ini_BadValue an_ini_BadValue : Option Addr} {sl_ini_BadValue : Array (Option Value)} {t_MOST_ROW : Tok} {nm_BadValue q_BadValue : Str} {N_BadValue : Addr} {bs_BadValue bm_BadValue : List Value} {sn_BadValue : List Str} {sub_BadValue : List Value} {ab_BadValue : Bool} {col_BadValue : Option Bool} {dd_BadValue : Option Addr} {m0_BadValue m1_BadValue m2_BadValue m3_BadValue m5_BadValue : Option Value}
    (m_abs : PySem.W.nsIn K mainGlobals "abs" = some none)
    (m_all : PySem.W.nsIn K mainGlobals "all" = some none)
    (m_int : PySem.W.nsIn K mainGlobals "int" = some none)
    (m_isinstance : PySem.W.nsIn K mainGlobals "isinstance" = some none)
    (m_len : PySem.W.nsIn K mainGlobals "len" = some none)
    (m_list : PySem.W.nsIn K mainGlobals "list" = some none)
    (m_min : PySem.W.nsIn K mainGlobals "min" = some none)
    (m_range : PySem.W.nsIn K mainGlobals "range" = some none)
    (m_str : PySem.W.nsIn K mainGlobals "str" = some none)
    (m_tuple : PySem.W.nsIn K mainGlobals "tuple" = some none)
    (g_MOST_ROW : PySem.W.nsIn K mainGlobals "MOST_ROW" = some (some (.int 100 t_MOST_ROW)))
    (a_is_row : PySem.W.nsIn K mainGlobals "is_row" = some (some (.ref f_is_row)))
    (l_is_row : K.lookup f_is_row = some ⟨oc_is_row, od_is_row, .func (PySem.W.fnOf "is_row" "is_row" (defArgs s_is_row) (defBody s_is_row) (defScope s_is_row) .none kV_is_row dc_is_row pm_is_row an_is_row cd_is_row ct_is_row), sl_is_row⟩)
    (c_is_row : PySem.W.codeIn K cd_is_row "is_row" = true)
    (k_is_row : PySem.W.keepIn K (.ref f_is_row) = true)
    (a_alike_ahead : PySem.W.nsIn K mainGlobals "alike_ahead" = some (some (.ref f_alike_ahead)))
    (l_alike_ahead : K.lookup f_alike_ahead = some ⟨oc_alike_ahead, od_alike_ahead, .func (PySem.W.fnOf "alike_ahead" "alike_ahead" (defArgs s_alike_ahead) (defBody s_alike_ahead) (defScope s_alike_ahead) .none kV_alike_ahead dc_alike_ahead pm_alike_ahead an_alike_ahead cd_alike_ahead ct_alike_ahead), sl_alike_ahead⟩)
    (c_alike_ahead : PySem.W.codeIn K cd_alike_ahead "alike_ahead" = true)
    (k_alike_ahead : PySem.W.keepIn K (.ref f_alike_ahead) = true)
    (a_change_of : PySem.W.nsIn K mainGlobals "change_of" = some (some (.ref f_change_of)))
    (l_change_of : K.lookup f_change_of = some ⟨oc_change_of, od_change_of, .func (PySem.W.fnOf "change_of" "change_of" (defArgs s_change_of) (defBody s_change_of) (defScope s_change_of) .none kV_change_of dc_change_of pm_change_of an_change_of cd_change_of ct_change_of), sl_change_of⟩)
    (c_change_of : PySem.W.codeIn K cd_change_of "change_of" = true)
    (k_change_of : PySem.W.keepIn K (.ref f_change_of) = true)
    (a_change : PySem.W.nsIn K mainGlobals "change" = some (some (.ref f_change)))
    (l_change : K.lookup f_change = some ⟨oc_change, od_change, .func (PySem.W.fnOf "change" "change" (defArgs s_change) (defBody s_change) (defScope s_change) .none kV_change dc_change pm_change an_change cd_change ct_change), sl_change⟩)
    (c_change : PySem.W.codeIn K cd_change "change" = true)
    (k_change : PySem.W.keepIn K (.ref f_change) = true)
    (a__law_stream : PySem.W.nsIn K mainGlobals "_law_stream" = some (some (.ref f__law_stream)))
    (l__law_stream : K.lookup f__law_stream = some ⟨oc__law_stream, od__law_stream, .func (PySem.W.fnOf "_law_stream" "_law_stream" (defArgs s__law_stream) (defBody s__law_stream) (defScope s__law_stream) .none kV__law_stream dc__law_stream pm__law_stream an__law_stream cd__law_stream ct__law_stream), sl__law_stream⟩)
    (c__law_stream : PySem.W.codeIn K cd__law_stream "_law_stream" = true)
    (k__law_stream : PySem.W.keepIn K (.ref f__law_stream) = true)
    (a__law_next : PySem.W.nsIn K mainGlobals "_law_next" = some (some (.ref f__law_next)))
    (l__law_next : K.lookup f__law_next = some ⟨oc__law_next, od__law_next, .func (PySem.W.fnOf "_law_next" "_law_next" (defArgs s__law_next) (defBody s__law_next) (defScope s__law_next) .none kV__law_next dc__law_next pm__law_next an__law_next cd__law_next ct__law_next), sl__law_next⟩)
    (c__law_next : PySem.W.codeIn K cd__law_next "_law_next" = true)
    (k__law_next : PySem.W.keepIn K (.ref f__law_next) = true)
    (a__law_row : PySem.W.nsIn K mainGlobals "_law_row" = some (some (.ref f__law_row)))
    (l__law_row : K.lookup f__law_row = some ⟨oc__law_row, od__law_row, .func (PySem.W.fnOf "_law_row" "_law_row" (defArgs s__law_row) (defBody s__law_row) (defScope s__law_row) .none kV__law_row dc__law_row pm__law_row an__law_row cd__law_row ct__law_row), sl__law_row⟩)
    (c__law_row : PySem.W.codeIn K cd__law_row "_law_row" = true)
    (k__law_row : PySem.W.keepIn K (.ref f__law_row) = true)
    (a__law_smallest : PySem.W.nsIn K mainGlobals "_law_smallest" = some (some (.ref f__law_smallest)))
    (l__law_smallest : K.lookup f__law_smallest = some ⟨oc__law_smallest, od__law_smallest, .func (PySem.W.fnOf "_law_smallest" "_law_smallest" (defArgs s__law_smallest) (defBody s__law_smallest) (defScope s__law_smallest) .none kV__law_smallest dc__law_smallest pm__law_smallest an__law_smallest cd__law_smallest ct__law_smallest), sl__law_smallest⟩)
    (c__law_smallest : PySem.W.codeIn K cd__law_smallest "_law_smallest" = true)
    (k__law_smallest : PySem.W.keepIn K (.ref f__law_smallest) = true)
    (a_law : PySem.W.nsIn K mainGlobals "law" = some (some (.ref f_law)))
    (l_law : K.lookup f_law = some ⟨oc_law, od_law, .func (PySem.W.fnOf "law" "law" (defArgs s_law) (defBody s_law) (defScope s_law) .none kV_law dc_law pm_law an_law cd_law ct_law), sl_law⟩)
    (c_law : PySem.W.codeIn K cd_law "law" = true)
    (k_law : PySem.W.keepIn K (.ref f_law) = true)
    (xa_BadValue : PySem.W.nsIn K mainGlobals "BadValue" = some (some (.ref c_BadValue)))
    (xl_BadValue : K.lookup c_BadValue = some (PySem.excClassObj nm_BadValue q_BadValue c_BadValue N_BadValue bs_BadValue bm_BadValue true sn_BadValue sub_BadValue ab_BadValue col_BadValue dd_BadValue m0_BadValue m1_BadValue m2_BadValue m3_BadValue m5_BadValue "ValueError.__new__"))
    (xs_BadValue : PySem.W.findIn K (.ref c_BadValue) "__setattr__" = some (some (.builtin "object.__setattr__")))
    (xe_BadValue : PySem.W.subIn K (.ref c_BadValue) (.type "BaseException") = some true)
    (xt_BadValue : PySem.W.typeIn K (.ref c_BadValue) = some (.type "type"))
    (xk_BadValue : PySem.W.keepIn K (.ref c_BadValue) = true)
    (xi_BadValue : PySem.W.findIn K (.ref c_BadValue) "__init__" = some (some (.ref i_BadValue)))
    (xj_BadValue : PySem.W.typeIn K (.ref i_BadValue) = some (.type "function"))
    (xn_BadValue : PySem.W.findIn K (.ref c_BadValue) "name" = some none)
    (xL_BadValue : K.lookup i_BadValue = some ⟨oc_ini_BadValue, od_ini_BadValue, .func (PySem.W.fnOf "__init__" "BadValue.__init__" (defArgs s_ini_BadValue) (defBody s_ini_BadValue) (defScope s_ini_BadValue) .none kV_ini_BadValue dc_ini_BadValue pm_ini_BadValue an_ini_BadValue cd_ini_BadValue ct_ini_BadValue), sl_ini_BadValue⟩)
    (xC_BadValue : PySem.W.codeIn K cd_ini_BadValue "BadValue.__init__" = true)
    (xK_BadValue : PySem.W.keepIn K (.ref i_BadValue) = true)
    (ht : ∀ ns : List Int, ns.length ≤ 63 → ∃ s, F_law [.obj 0] [.scr ns] = .ok (.bl true) s) (xr_BadValue : PySem.HandSPX.refsVE bm_BadValue = true) :
    ∃ fd : FuncData, (∀ (s : Shared) (v : Value), BindsTo s fd ⟨[v], []⟩ [("_law_script", v)]) ∧ ∀ base : Heap, K.In base → base.Ns mainGlobals mg → FnOk Pg w K mg base (L2.CX Pg w) 4 fa fd ["_law_script"] (spLaw K) := by
  have e0 := hfa.symm.trans (PySem.W.mg_of X G0 a_law)
  cases e0
  have T : Txt K mg := ⟨PySem.W.mg_none_of X G0 m_abs, PySem.W.mg_none_of X G0 m_all, PySem.W.mg_none_of X G0 m_int, PySem.W.mg_none_of X G0 m_isinstance, PySem.W.mg_none_of X G0 m_len, PySem.W.mg_none_of X G0 m_list, PySem.W.mg_none_of X G0 m_min, PySem.W.mg_none_of X G0 m_range, PySem.W.mg_none_of X G0 m_str, PySem.W.mg_none_of X G0 m_tuple, ⟨_, PySem.W.mg_of X G0 g_MOST_ROW⟩⟩
  have FF_is_row := fun_mk (st := s_is_row) l_is_row c_is_row k_is_row
  have b_is_row := FF_is_row.binds (ps := ["value"]) fun _ _ _ _ _ _ us hl => match us, hl with | [_], _ => rfl
  have FF_alike_ahead := fun_mk (st := s_alike_ahead) l_alike_ahead c_alike_ahead k_alike_ahead
  have b_alike_ahead := FF_alike_ahead.binds (ps := ["old", "new"]) fun _ _ _ _ _ _ us hl => match us, hl with | [_, _], _ => rfl
  have FF_change_of := fun_mk (st := s_change_of) l_change_of c_change_of k_change_of
  have b_change_of := FF_change_of.binds (ps := ["old", "new"]) fun _ _ _ _ _ _ us hl => match us, hl with | [_, _], _ => rfl
  have FF_change := fun_mk (st := s_change) l_change c_change k_change
  have b_change := FF_change.binds (ps := ["old", "new"]) fun _ _ _ _ _ _ us hl => match us, hl with | [_, _], _ => rfl
  have FF__law_stream := fun_mk (st := s__law_stream) l__law_stream c__law_stream k__law_stream
  have b__law_stream := FF__law_stream.binds (ps := ["_law_script"]) fun _ _ _ _ _ _ us hl => match us, hl with | [_], _ => rfl
  have FF__law_next := fun_mk (st := s__law_next) l__law_next c__law_next k__law_next
  have b__law_next := FF__law_next.binds (ps := ["_law_stream_here", "_law_many"]) fun _ _ _ _ _ _ us hl => match us, hl with | [_, _], _ => rfl
  have FF__law_row := fun_mk (st := s__law_row) l__law_row c__law_row k__law_row
  have b__law_row := FF__law_row.binds (ps := ["_law_stream_here"]) fun _ _ _ _ _ _ us hl => match us, hl with | [_], _ => rfl
  have FF__law_smallest := fun_mk (st := s__law_smallest) l__law_smallest c__law_smallest k__law_smallest
  have b__law_smallest := FF__law_smallest.binds (ps := ["_law_old", "_law_new"]) fun _ _ _ _ _ _ us hl => match us, hl with | [_, _], _ => rfl
  have FF_law := fun_mk (st := s_law) l_law c_law k_law
  have b_law := FF_law.binds (ps := ["_law_script"]) fun _ _ _ _ _ _ us hl => match us, hl with | [_], _ => rfl
  have FF_ini_BadValue := fun_mk (st := s_ini_BadValue) xL_BadValue xC_BadValue xK_BadValue
  have b_ini_BadValue := FF_ini_BadValue.binds (ps := ["self", "name"]) fun _ _ _ _ _ _ us hl => match us, hl with | [_, _], _ => rfl
  have O_BadValue : OexC K c_BadValue := ⟨⟨_, _, _, _, _, _, _, _, _, _, _, _, _, _, _, xl_BadValue, xr_BadValue⟩, xs_BadValue, xe_BadValue, xt_BadValue, xk_BadValue⟩
  refine ⟨PySem.W.fnOf "law" "law" (defArgs s_law) (defBody s_law) (defScope s_law) .none kV_law dc_law pm_law an_law cd_law ct_law, fun s v => .of_eq rfl, fun base _ _ => ?_⟩
  have hc_BadValue : (⟨K, fun c => if c = "BadValue" then c_BadValue else 0, fun _ _ _ => False⟩ : Par).cl "BadValue" = c_BadValue := by simp
  have X_BadValue : ExcG Pg w mg base ⟨K, fun c => if c = "BadValue" then c_BadValue else 0, fun _ _ _ => False⟩ "BadValue" "BadValue" "name" := by
    refine ⟨i_BadValue, PySem.W.fnOf "__init__" "BadValue.__init__" (defArgs s_ini_BadValue) (defBody s_ini_BadValue) (defScope s_ini_BadValue) .none kV_ini_BadValue dc_ini_BadValue pm_ini_BadValue an_ini_BadValue cd_ini_BadValue ct_ini_BadValue, ["self", "name"], ?_⟩
    rw [hc_BadValue]
    exact ⟨O_BadValue, xi_BadValue, xj_BadValue, ini_ok FF_ini_BadValue ⟨rfl, rfl, rfl, by decide +kernel, rfl, by decide +kernel, by decide +kernel⟩ rfl rfl rfl O_BadValue xn_BadValue (by decide) (by decide) (fun _ => rfl), b_ini_BadValue, PySem.W.mg_of X G0 xa_BadValue⟩
  have C_is_row : FnG Pg w mg base ⟨K, fun c => if c = "BadValue" then c_BadValue else 0, fun _ _ _ => False⟩ "is_row" 1 1 F_is_row := ⟨f_is_row, _, ["value"], ok_is_row (P := ⟨K, fun c => if c = "BadValue" then c_BadValue else 0, fun _ _ _ => False⟩) FF_is_row T, PySem.W.mg_of X G0 a_is_row, k_is_row, b_is_row⟩
  have C_alike_ahead : FnG Pg w mg base ⟨K, fun c => if c = "BadValue" then c_BadValue else 0, fun _ _ _ => False⟩ "alike_ahead" 1 2 F_alike_ahead := ⟨f_alike_ahead, _, ["old", "new"], ok_alike_ahead (P := ⟨K, fun c => if c = "BadValue" then c_BadValue else 0, fun _ _ _ => False⟩) FF_alike_ahead T, PySem.W.mg_of X G0 a_alike_ahead, k_alike_ahead, b_alike_ahead⟩
  have C_change_of : FnG Pg w mg base ⟨K, fun c => if c = "BadValue" then c_BadValue else 0, fun _ _ _ => False⟩ "change_of" 2 2 F_change_of := ⟨f_change_of, _, ["old", "new"], ok_change_of (P := ⟨K, fun c => if c = "BadValue" then c_BadValue else 0, fun _ _ _ => False⟩) FF_change_of T C_alike_ahead, PySem.W.mg_of X G0 a_change_of, k_change_of, b_change_of⟩
  have C_change : FnG Pg w mg base ⟨K, fun c => if c = "BadValue" then c_BadValue else 0, fun _ _ _ => False⟩ "change" 3 2 F_change := ⟨f_change, _, ["old", "new"], ok_change (P := ⟨K, fun c => if c = "BadValue" then c_BadValue else 0, fun _ _ _ => False⟩) FF_change T C_change_of C_is_row X_BadValue, PySem.W.mg_of X G0 a_change, k_change, b_change⟩
  have C__law_stream : FnG Pg w mg base ⟨K, fun c => if c = "BadValue" then c_BadValue else 0, fun _ _ _ => False⟩ "_law_stream" 1 1 F__law_stream := ⟨f__law_stream, _, ["_law_script"], ok__law_stream (P := ⟨K, fun c => if c = "BadValue" then c_BadValue else 0, fun _ _ _ => False⟩) FF__law_stream T, PySem.W.mg_of X G0 a__law_stream, k__law_stream, b__law_stream⟩
  have C__law_next : FnG Pg w mg base ⟨K, fun c => if c = "BadValue" then c_BadValue else 0, fun _ _ _ => False⟩ "_law_next" 1 2 F__law_next := ⟨f__law_next, _, ["_law_stream_here", "_law_many"], ok__law_next (P := ⟨K, fun c => if c = "BadValue" then c_BadValue else 0, fun _ _ _ => False⟩) FF__law_next T, PySem.W.mg_of X G0 a__law_next, k__law_next, b__law_next⟩
  have C__law_row : FnG Pg w mg base ⟨K, fun c => if c = "BadValue" then c_BadValue else 0, fun _ _ _ => False⟩ "_law_row" 2 1 F__law_row := ⟨f__law_row, _, ["_law_stream_here"], ok__law_row (P := ⟨K, fun c => if c = "BadValue" then c_BadValue else 0, fun _ _ _ => False⟩) FF__law_row T C__law_next, PySem.W.mg_of X G0 a__law_row, k__law_row, b__law_row⟩
  have C__law_smallest : FnG Pg w mg base ⟨K, fun c => if c = "BadValue" then c_BadValue else 0, fun _ _ _ => False⟩ "_law_smallest" 1 2 F__law_smallest := ⟨f__law_smallest, _, ["_law_old", "_law_new"], ok__law_smallest (P := ⟨K, fun c => if c = "BadValue" then c_BadValue else 0, fun _ _ _ => False⟩) FF__law_smallest T, PySem.W.mg_of X G0 a__law_smallest, k__law_smallest, b__law_smallest⟩
  exact law_imp (P := ⟨K, fun c => if c = "BadValue" then c_BadValue else 0, fun _ _ _ => False⟩) (ok_law (P := ⟨K, fun c => if c = "BadValue" then c_BadValue else 0, fun _ _ _ => False⟩) FF_law T C__law_next C__law_row C__law_smallest C__law_stream C_change) ht
end Law

open PySem PySem.W PyProof.Rows
set_option maxRecDepth 100000 in
set_option maxHeartbeats 0 in
theorem PySem.Challenge.cw_greedycuts_k78_whole_smallest_changes_holds : PySem.Challenge.rw_greedycuts_k78_whole_smallest_changes.Holds := by
  w_on; o_law; k_head; (case hw => w_witness2)
  k_fill
  refine G.law_walk (k := 4) (l := PySem.Challenge.rw_greedycuts_k78_whole_smallest_changes) rfl rfl ⟨rfl, by decide, by decide⟩ (fun w h Y => PySem.W.kIn_of Y) ?F
  case F =>
    intro w mg fa h KX GG hmg
    refine' Law.all_mk KX GG hmg ?m_abs ?m_all ?m_int ?m_isinstance ?m_len ?m_list ?m_min ?m_range ?m_str ?m_tuple ?g_MOST_ROW ?a_is_row ?l_is_row ?c_is_row ?k_is_row ?a_alike_ahead ?l_alike_ahead ?c_alike_ahead ?k_alike_ahead ?a_change_of ?l_change_of ?c_change_of ?k_change_of ?a_change ?l_change ?c_change ?k_change ?a__law_stream ?l__law_stream ?c__law_stream ?k__law_stream ?a__law_next ?l__law_next ?c__law_next ?k__law_next ?a__law_row ?l__law_row ?c__law_row ?k__law_row ?a__law_smallest ?l__law_smallest ?c__law_smallest ?k__law_smallest ?a_law ?l_law ?c_law ?k_law ?xa_BadValue ?xl_BadValue ?xs_BadValue ?xe_BadValue ?xt_BadValue ?xk_BadValue ?xi_BadValue ?xj_BadValue ?xn_BadValue ?xL_BadValue ?xC_BadValue ?xK_BadValue (ht := Law.law_true) ?xr_BadValue
    (case m_abs => k_is)
    (case m_all => k_is)
    (case m_int => k_is)
    (case m_isinstance => k_is)
    (case m_len => k_is)
    (case m_list => k_is)
    (case m_min => k_is)
    (case m_range => k_is)
    (case m_str => k_is)
    (case m_tuple => k_is)
    (case g_MOST_ROW => k_is)
    (case a_is_row => k_is)
    (case l_is_row => k_is)
    (case c_is_row => k_is)
    (case k_is_row => k_is)
    (case a_alike_ahead => k_is)
    (case l_alike_ahead => k_is)
    (case c_alike_ahead => k_is)
    (case k_alike_ahead => k_is)
    (case a_change_of => k_is)
    (case l_change_of => k_is)
    (case c_change_of => k_is)
    (case k_change_of => k_is)
    (case a_change => k_is)
    (case l_change => k_is)
    (case c_change => k_is)
    (case k_change => k_is)
    (case a__law_stream => k_is)
    (case l__law_stream => k_is)
    (case c__law_stream => k_is)
    (case k__law_stream => k_is)
    (case a__law_next => k_is)
    (case l__law_next => k_is)
    (case c__law_next => k_is)
    (case k__law_next => k_is)
    (case a__law_row => k_is)
    (case l__law_row => k_is)
    (case c__law_row => k_is)
    (case k__law_row => k_is)
    (case a__law_smallest => k_is)
    (case l__law_smallest => k_is)
    (case c__law_smallest => k_is)
    (case k__law_smallest => k_is)
    (case a_law => k_is)
    (case l_law => k_is)
    (case c_law => k_is)
    (case k_law => k_is)
    (case xa_BadValue => k_is)
    (case xl_BadValue => k_is)
    (case xs_BadValue => k_is)
    (case xe_BadValue => k_is)
    (case xt_BadValue => k_is)
    (case xk_BadValue => k_is)
    (case xi_BadValue => k_is)
    (case xj_BadValue => k_is)
    (case xn_BadValue => k_is)
    (case xL_BadValue => k_is)
    (case xC_BadValue => k_is)
    (case xK_BadValue => k_is)
    (case xr_BadValue => decide +kernel)
