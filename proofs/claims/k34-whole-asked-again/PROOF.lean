import PyProof.Rows.All
import Wide.All
import OpenK.AllK
import Wide.FinOn
import HandS.ForMost
import HandS.WordsExc
import HandS.Walk
import HandS.TupAny
import HandS.TupMul
import HandS.Zip
import HandS.StrMore
import KE.GoesEnum
import KE.DataMinMax
import PyProof.Claim2Refuses
import KE.KDictKeyed
import HandS.More
import PyProof.ExcBaseAll.ValueError
import HandS.Lambda
import HandS.Nested
import KE.KLam
import KE.KDflt
import HandS.SetFor
import HandS.ExcIs
import HandS.IsInst
import PyProof.P3Eq
import HandS.EndTab
import KE.KNestM
import PySem.Challenge.RW_doorwords_k34_whole_asked_again
set_option Elab.async false
set_option linter.all false
set_option maxRecDepth 100000
set_option maxHeartbeats 4000000
/-! Dw: values told as data, slots by kinds, over the hand layer. -/
namespace Dw
open PySem PySem.Spec PyProof.Rows L2

/-! ### immutable data in the heap -/
/-- tuples stay -/
def Tk (H H' : Hp) : Prop := ∀ a xs, H a = some (.tup xs) → H' a = some (.tup xs)
theorem Tk.of {H H' : Hp} (s : Same H H') : Tk H H' := fun a xs h => s a _ h
theorem Tk.refl (H : Hp) : Tk H H := fun _ _ h => h
theorem Tk.trans {H H1 H2 : Hp} (a : Tk H H1) (b : Tk H1 H2) : Tk H H2 := fun x o h => b x o (a x o h)
/-- a store to what is no tuple -/
theorem Tk.upd {H : Hp} {l : Addr} {o : HO} (h : ∀ xs, H l ≠ some (.tup xs)) : Tk H (L2.upd H l o) := fun a xs e => by
  rw [upd_ne (fun z => h xs (by rw [← z]; exact e))]
  exact e
theorem Same.new {H : Hp} {p : Addr} {o : HO} (h : H p = none) : Same H (upd H p o) := fun a u e => by
  rw [upd_ne (ne_of_none e h)]
  exact e

mutual
def Im (H : Hp) : PyData → V → Prop
  | .none, v => v = .non
  | .bool b, v => v = .bl b
  | .int i, v => v = .int i
  | .str x, v => v = .str x
  | .tuple ds, v => ∃ a xs, v = .ref a ∧ H a = some (.tup xs) ∧ ImAll H ds xs
  | .list _, _ => False
  | .dict _, _ => False
def ImAll (H : Hp) : List PyData → List V → Prop
  | [], vs => vs = []
  | d :: ds, vs => ∃ x xs, vs = x :: xs ∧ Im H d x ∧ ImAll H ds xs
end
section
variable {H H' : Hp} {d : PyData} {ds es : List PyData} {v : V} {vs ws : List V}
mutual
theorem Im.mono (t : Tk H H') : ∀ (d : PyData) (v : V), Im H d v → Im H' d v
  | .none, _, h => by simpa [Im] using h
  | .bool b, _, h => by simpa [Im] using h
  | .int i, _, h => by simpa [Im] using h
  | .str x, _, h => by simpa [Im] using h
  | .tuple ds, v, h => by
    simp only [Im] at h ⊢
    obtain ⟨a, xs, e, h1, h2⟩ := h
    exact ⟨a, xs, e, t _ _ h1, ImAll.mono t ds xs h2⟩
  | .list _, _, h => by simp [Im] at h
  | .dict _, _, h => by simp [Im] at h
theorem ImAll.mono (t : Tk H H') : ∀ (ds : List PyData) (vs : List V), ImAll H ds vs → ImAll H' ds vs
  | [], _, h => by simpa [ImAll] using h
  | d :: ds, vs, h => by
    simp only [ImAll] at h ⊢
    obtain ⟨x, xs, e, h1, h2⟩ := h
    exact ⟨x, xs, e, Im.mono t d x h1, ImAll.mono t ds xs h2⟩
end
theorem imAll_nil : ImAll H [] [] := by simp [ImAll]
theorem imAll_cons (h : Im H d v) (hs : ImAll H ds vs) : ImAll H (d :: ds) (v :: vs) := by
  simp only [ImAll]
  exact ⟨v, vs, rfl, h, hs⟩
theorem ImAll.uncons (h : ImAll H (d :: ds) vs) : ∃ x xs, vs = x :: xs ∧ Im H d x ∧ ImAll H ds xs := by
  simpa only [ImAll] using h
theorem ImAll.length : ∀ {ds : List PyData} {vs : List V}, ImAll H ds vs → vs.length = ds.length
  | [], _, h => by simp only [ImAll] at h; rw [h]; rfl
  | d :: ds, _, h => by
    obtain ⟨x, xs, e, _, h2⟩ := h.uncons
    rw [e, List.length_cons, List.length_cons, ImAll.length h2]
theorem ImAll.get : ∀ {ds : List PyData} {vs : List V} {i : Nat} {d : PyData}, ImAll H ds vs → ds[i]? = some d → ∃ v, vs[i]? = some v ∧ Im H d v
  | [], _, i, d, _, e => by simp at e
  | c :: ds, _, 0, d, h, e => by
    obtain ⟨x, xs, e1, h1, _⟩ := h.uncons
    simp at e
    subst e
    exact ⟨x, by rw [e1]; rfl, h1⟩
  | c :: ds, _, i + 1, d, h, e => by
    obtain ⟨x, xs, e1, _, h2⟩ := h.uncons
    obtain ⟨v, q1, q2⟩ := ImAll.get (i := i) (d := d) h2 (by simpa using e)
    exact ⟨v, by rw [e1]; simpa using q1, q2⟩
theorem ImAll.append : ∀ {ds es : List PyData} {vs ws : List V}, ImAll H ds vs → ImAll H es ws → ImAll H (ds ++ es) (vs ++ ws)
  | [], _, _, _, h, g => by simp only [ImAll] at h; rw [h]; exact g
  | d :: ds, es, _, ws, h, g => by
    obtain ⟨x, xs, e1, h1, h2⟩ := h.uncons
    rw [e1]
    exact imAll_cons h1 (ImAll.append h2 g)
theorem ImAll.set : ∀ {ds : List PyData} {vs : List V} (i : Nat) {d : PyData} {v : V}, ImAll H ds vs → Im H d v → ImAll H (ds.set i d) (vs.set i v)
  | [], _, _, _, _, h, _ => by simp only [ImAll] at h; rw [h]; exact imAll_nil
  | c :: ds, _, 0, _, _, h, g => by
    obtain ⟨x, xs, e1, _, h2⟩ := h.uncons
    rw [e1]
    exact imAll_cons g h2
  | c :: ds, _, i + 1, _, _, h, g => by
    obtain ⟨x, xs, e1, h1, h2⟩ := h.uncons
    rw [e1]
    exact imAll_cons h1 (ImAll.set i h2 g)
theorem ImAll.drop : ∀ {ds : List PyData} {vs : List V} (n : Nat), ImAll H ds vs → ImAll H (ds.drop n) (vs.drop n)
  | _, _, 0, h => h
  | [], _, n + 1, h => by simp only [ImAll] at h; rw [h]; exact imAll_nil
  | c :: ds, _, n + 1, h => by
    obtain ⟨x, xs, e1, _, h2⟩ := h.uncons
    rw [e1]
    exact ImAll.drop n h2
theorem ImAll.take : ∀ {ds : List PyData} {vs : List V} (n : Nat), ImAll H ds vs → ImAll H (ds.take n) (vs.take n)
  | _, _, 0, h => by rw [List.take_zero, List.take_zero]; exact imAll_nil
  | [], _, n + 1, h => by simp only [ImAll] at h; rw [h]; exact imAll_nil
  | c :: ds, _, n + 1, h => by
    obtain ⟨x, xs, e1, h1, h2⟩ := h.uncons
    rw [e1]
    exact imAll_cons h1 (ImAll.take n h2)
theorem imAll_map {α : Type} {f : α → PyData} {g : α → V} (k : ∀ x, Im H (f x) (g x)) : ∀ xs : List α, ImAll H (xs.map f) (xs.map g)
  | [] => imAll_nil
  | x :: xs => imAll_cons (k x) (imAll_map k xs)
theorem imAll_rep {d : PyData} {v : V} (h : Im H d v) : ∀ n : Nat, ImAll H (List.replicate n d) (List.replicate n v)
  | 0 => imAll_nil
  | n + 1 => imAll_cons h (imAll_rep h n)
theorem im_int (i : Int) : Im H (.int i) (.int i) := by simp [Im]
theorem im_str (x : Str) : Im H (.str x) (.str x) := by simp [Im]
theorem im_bool (b : Bool) : Im H (.bool b) (.bl b) := by simp [Im]
theorem im_none : Im H .none .non := by simp [Im]
theorem Im.ofInt {i : Int} (h : Im H (.int i) v) : v = .int i := by simpa [Im] using h
theorem Im.ofStr {x : Str} (h : Im H (.str x) v) : v = .str x := by simpa [Im] using h
theorem Im.ofBool {b : Bool} (h : Im H (.bool b) v) : v = .bl b := by simpa [Im] using h
theorem Im.ofNone (h : Im H .none v) : v = .non := by simpa [Im] using h
theorem Im.ofTup (h : Im H (.tuple ds) v) : ∃ a xs, v = .ref a ∧ H a = some (.tup xs) ∧ ImAll H ds xs := by simpa [Im] using h
theorem im_tup {a : Addr} {xs : List V} (h : H a = some (.tup xs)) (hs : ImAll H ds xs) : Im H (.tuple ds) (.ref a) := by
  simp only [Im]
  exact ⟨a, xs, rfl, h, hs⟩
theorem ImAll.ints : ∀ {ns : List Int} {vs : List V}, ImAll H (ns.map PyData.int) vs → vs = ns.map V.int
  | [], _, h => by simpa only [List.map_nil, ImAll] using h
  | n :: ns, _, h => by
    obtain ⟨x, xs, e1, h1, h2⟩ := ImAll.uncons (ds := ns.map PyData.int) h
    rw [e1, h1.ofInt, ImAll.ints h2]
    rfl
theorem ImAll.strs : ∀ {ns : List Str} {vs : List V}, ImAll H (ns.map PyData.str) vs → vs = ns.map V.str
  | [], _, h => by simpa only [List.map_nil, ImAll] using h
  | n :: ns, _, h => by
    obtain ⟨x, xs, e1, h1, h2⟩ := ImAll.uncons (ds := ns.map PyData.str) h
    rw [e1, h1.ofStr, ImAll.strs h2]
    rfl
mutual
theorem Im.dp {K : PySem.W.Frag} : ∀ (d : PyData) (v : V), Im H d v → Dp K H v d
  | .none, _, h => by rw [h.ofNone]; exact .non
  | .bool b, _, h => by rw [h.ofBool]; exact .bl b
  | .int i, _, h => by rw [h.ofInt]; exact .int i
  | .str x, _, h => by rw [h.ofStr]; exact .str x
  | .tuple ds, v, h => by
    obtain ⟨a, xs, e, h1, h2⟩ := h.ofTup
    rw [e]
    exact .tup (SqT.of h1) (ImAll.dp ds xs h2)
  | .list _, _, h => by simp [Im] at h
  | .dict _, _, h => by simp [Im] at h
theorem ImAll.dp {K : PySem.W.Frag} : ∀ (ds : List PyData) (vs : List V), ImAll H ds vs → DpAll K H vs ds
  | [], _, h => by simp only [ImAll] at h; rw [h]; exact .nil
  | d :: ds, vs, h => by
    obtain ⟨x, xs, e, h1, h2⟩ := h.uncons
    rw [e]
    exact .cons (Im.dp d x h1) (ImAll.dp ds xs h2)
end
end

/-! ### readings that are the code's own run -/
def RE (X : Cx) (e : Expr) : TE := fun σ H Q => ∀ pins s, Inv X pins σ H s → wpAny (model X.prog X.w) X.A (eval e X.env) (EP X pins σ Q) X.xe s
def RT (X : Cx) (e : Expr) : TT := fun σ H Q => ∀ pins s, Inv X pins σ H s → wpAny (model X.prog X.w) X.A (isTrue e X.env (eval e X.env)) (TP X pins σ Q) X.xe s
def RA (X : Cx) (es : List Expr) : TA := fun σ H Q => ∀ pos pins s, Inv X pins σ H s → wpAny (model X.prog X.w) X.A (spliced (backTo pos (starEach es X.env))) (AP X pins σ Q) X.xe s
def RS (X : Cx) (st : Stmt) : TS := fun D σ H => ∀ pins s, Inv X pins σ H s → wpAny (model X.prog X.w) X.A (exec st X.env) (SP X pins D) X.xe s
def RSs (X : Cx) (st : List Stmt) : TS := fun D σ H => ∀ pins s, Inv X pins σ H s → wpAny (model X.prog X.w) X.A (execs st X.env) (SP X pins D) X.xe s
def RW (X : Cx) (e : Expr) : TT := fun σ H Q => ∀ whole pins s, Inv X pins σ H s → wpAny (model X.prog X.w) X.A (isTrue e X.env whole) (TP X pins σ Q) X.xe s
section
variable {X : Cx} {e : Expr} {es : List Expr} {st : Stmt} {sts : List Stmt} {t : TE} {tt : TT} {ta : TA} {ts : TS} {σ : L2.St} {H : Hp}
theorem re_pe : PE X e (RE X e) := ⟨fun pins s _ _ _ I h => h pins s I⟩
theorem rt_pt : PT X e (RT X e) := ⟨fun pins s _ _ _ I h => h pins s I⟩
theorem rw_pw : PW X e (RW X e) := ⟨fun wh pins s _ _ _ I h => h wh pins s I⟩
theorem ra_pa : PA X es (RA X es) := ⟨fun pos pins s _ _ _ I h => h pos pins s I⟩
theorem rs_ps : PS X st (RS X st) := ⟨fun pins s _ _ _ I h => h pins s I⟩
theorem rss_pss : PSs X sts (RSs X sts) := ⟨fun pins s _ _ _ I h => h pins s I⟩
theorem RE.of {Q : VK} (h : PE X e t) (q : t σ H Q) : RE X e σ H Q := fun pins s I => h.run pins s σ H Q I q
theorem RT.of {Q : Bool → Hp → Prop} (h : PT X e tt) (q : tt σ H Q) : RT X e σ H Q := fun pins s I => h.run pins s σ H Q I q
theorem RA.of {Q : List V → Hp → Prop} (h : PA X es ta) (q : ta σ H Q) : RA X es σ H Q := fun pos pins s I => h.run pos pins s σ H Q I q
theorem RS.of {D : Ends} (h : PS X st ts) (q : ts D σ H) : RS X st D σ H := fun pins s I => h.run pins s σ H D I q
theorem RSs.of {D : Ends} (h : PSs X sts ts) (q : ts D σ H) : RSs X sts D σ H := fun pins s I => h.run pins s σ H D I q
theorem RW.of {Q : Bool → Hp → Prop} (h : PW X e tt) (q : tt σ H Q) : RW X e σ H Q := fun wh pins s I => h.run wh pins s σ H Q I q
theorem RE.imp {Q Q' : VK} (h : RE X e σ H Q) (k : ∀ v H', Q v H' → Q' v H') : RE X e σ H Q' := fun pins s I => thn (h pins s I) fun u s' ⟨v, H', I', r, q⟩ => ⟨v, H', I', r, k v H' q⟩
theorem SP.imp {D D' : Ends} {pins : List (Addr × Obj)} {f : Flow} {s' : Shared} (h : SP X pins D f s') (h1 : ∀ σ H, D.nx σ H → D'.nx σ H) (h2 : ∀ v H, D.rt v H → D'.rt v H) (h3 : ∀ σ H, D.bk σ H → D'.bk σ H) (h4 : ∀ σ H, D.ct σ H → D'.ct σ H) : SP X pins D' f s' := by
  cases f with
  | next => obtain ⟨σ', H', I, q⟩ := h; exact ⟨σ', H', I, h1 _ _ q⟩
  | brk => obtain ⟨σ', H', I, q⟩ := h; exact ⟨σ', H', I, h3 _ _ q⟩
  | cont => obtain ⟨σ', H', I, q⟩ := h; exact ⟨σ', H', I, h4 _ _ q⟩
  | ret u => obtain ⟨v, σ', H', I, r, q⟩ := h; exact ⟨v, σ', H', I, r, h2 _ _ q⟩
theorem RSs.imp {D D' : Ends} (h : RSs X sts D σ H) (h1 : ∀ σ H, D.nx σ H → D'.nx σ H) (h2 : ∀ v H, D.rt v H → D'.rt v H) (h3 : ∀ σ H, D.bk σ H → D'.bk σ H) (h4 : ∀ σ H, D.ct σ H → D'.ct σ H) : RSs X sts D' σ H :=
  fun pins s I => thn (h pins s I) fun f s' q => SP.imp q h1 h2 h3 h4
theorem rss_nil {D : Ends} (h : D.nx σ H) : RSs X [] D σ H := RSs.of pss_nil h
theorem rss_cons {D : Ends} (h : RS X st { D with nx := fun σ H => RSs X sts D σ H } σ H) : RSs X (st :: sts) D σ H := RSs.of (pss_cons rs_ps rss_pss) h
theorem rss_one {D : Ends} (h : RS X st D σ H) : RSs X [st] D σ H := RSs.of (pss_one rs_ps) h
end

/-! ### slots by kinds -/
inductive Sl where
  /-- not known -/
  | un
  /-- immutable data -/
  | dat (d : PyData)
  /-- a list of the frame's own, of immutable data -/
  | lst (ds : List PyData)
  /-- a list that is read -/
  | rls (ds : List PyData)
  /-- a dict of the frame's own -/
  | dic (kvs : List (Key × PyData))
  /-- the very value -/
  | raw (v : V)
def Sl.own : Sl → Bool
  | .lst _ => true
  | .dic _ => true
  | _ => false
/-- a dict's pairs -/
def ImD (H : Hp) (kvs : List (Key × PyData)) (kv : List (Key × V)) : Prop := kv.map (·.1) = kvs.map (·.1) ∧ ImAll H (kvs.map (·.2)) (kv.map (·.2))
def SlOk (B H : Hp) (o : Option V) : Sl → Prop
  | .un => True
  | .dat d => ∃ v, o = some v ∧ Im H d v
  | .lst ds => ∃ l vs, o = some (.ref l) ∧ B l = none ∧ H l = some (.lst vs) ∧ ImAll H ds vs
  | .rls ds => ∃ l vs, o = some (.ref l) ∧ B l = some (.lst vs) ∧ ImAll B ds vs
  | .dic kvs => ∃ l kv, o = some (.ref l) ∧ B l = none ∧ H l = some (.dK kv) ∧ ImD H kvs kv
  | .raw v => o = some v
structure Good (B H : Hp) (σ : L2.St) (Γ : List Sl) : Prop where
  same : Same B H
  len : σ.length = Γ.length
  at_ : ∀ (i : Nat) (sl : Sl) (o : Option V), Γ[i]? = some sl → σ[i]? = some o → SlOk B H o sl
  apart : ∀ (i j : Nat) (si sj : Sl) (l : Addr), i ≠ j → Γ[i]? = some si → Γ[j]? = some sj → si.own = true → sj.own = true → σ[i]? = some (some (.ref l)) → σ[j]? = some (some (.ref l)) → False
section
variable {B B' H H' : Hp} {σ : L2.St} {Γ : List Sl} {i : Nat}
theorem SlOk.mono {o : Option V} {sl : Sl} (h : SlOk B H o sl) (e : Same H H') : SlOk B H' o sl := by
  cases sl with
  | un => trivial
  | dat d => obtain ⟨v, e1, q⟩ := h; exact ⟨v, e1, q.mono (Tk.of e)⟩
  | lst ds => obtain ⟨l, vs, e1, e2, e3, q⟩ := h; exact ⟨l, vs, e1, e2, e _ _ e3, q.mono (Tk.of e)⟩
  | rls ds => exact h
  | dic kvs => obtain ⟨l, kv, e1, e2, e3, q1, q2⟩ := h; exact ⟨l, kv, e1, e2, e _ _ e3, q1, q2.mono (Tk.of e)⟩
  | raw v => exact h
theorem Good.mono (G : Good B H σ Γ) (e : Same H H') : Good B H' σ Γ := ⟨G.same.trans e, G.len, fun i sl o h1 h2 => (G.at_ i sl o h1 h2).mono e, G.apart⟩
theorem Good.slot {sl : Sl} (G : Good B H σ Γ) (h : Γ[i]? = some sl) : ∃ o, σ[i]? = some o ∧ SlOk B H o sl := by
  have hi : i < σ.length := by rw [G.len]; exact (List.getElem?_eq_some_iff.mp h).1
  exact ⟨σ[i], List.getElem?_eq_getElem hi, G.at_ i sl _ h (List.getElem?_eq_getElem hi)⟩
theorem Good.dat {d : PyData} (G : Good B H σ Γ) (h : Γ[i]? = some (.dat d)) : ∃ v, σ[i]? = some (some v) ∧ Im H d v := by
  obtain ⟨o, e, v, rfl, q⟩ := G.slot h
  exact ⟨v, e, q⟩
theorem Good.lst {ds : List PyData} (G : Good B H σ Γ) (h : Γ[i]? = some (.lst ds)) : ∃ l vs, σ[i]? = some (some (.ref l)) ∧ B l = none ∧ H l = some (.lst vs) ∧ ImAll H ds vs := by
  obtain ⟨o, e, l, vs, rfl, q⟩ := G.slot h
  exact ⟨l, vs, e, q⟩
theorem Good.rls {ds : List PyData} (G : Good B H σ Γ) (h : Γ[i]? = some (.rls ds)) : ∃ l vs, σ[i]? = some (some (.ref l)) ∧ B l = some (.lst vs) ∧ H l = some (.lst vs) ∧ ImAll H ds vs := by
  obtain ⟨o, e, l, vs, rfl, q1, q2⟩ := G.slot h
  exact ⟨l, vs, e, q1, G.same _ _ q1, q2.mono (Tk.of G.same)⟩
theorem Good.dic {kvs : List (Key × PyData)} (G : Good B H σ Γ) (h : Γ[i]? = some (.dic kvs)) : ∃ l kv, σ[i]? = some (some (.ref l)) ∧ B l = none ∧ H l = some (.dK kv) ∧ ImD H kvs kv := by
  obtain ⟨o, e, l, kv, rfl, q⟩ := G.slot h
  exact ⟨l, kv, e, q⟩
theorem Good.raw {v : V} (G : Good B H σ Γ) (h : Γ[i]? = some (.raw v)) : σ[i]? = some (some v) := by
  obtain ⟨o, e, rfl⟩ := G.slot h
  exact e
theorem get_set {α : Type} {xs : List α} {i j : Nat} {x y : α} (h : (xs.set i x)[j]? = some y) : (j = i ∧ y = x ∧ i < xs.length) ∨ (j ≠ i ∧ xs[j]? = some y) := by
  by_cases e : i = j
  · subst e
    by_cases hl : i < xs.length
    · rw [List.getElem?_set_self hl] at h
      exact .inl ⟨rfl, (Option.some.inj h).symm, hl⟩
    · rw [List.getElem?_eq_none (by simpa using hl)] at h
      cases h
  · rw [List.getElem?_set_ne e] at h
    exact .inr ⟨fun z => e z.symm, h⟩
/-- a slot set to what is no object of the frame's own -/
theorem Good.set {sl : Sl} {v : V} (G : Good B H σ Γ) (i : Nat) (hs : SlOk B H (some v) sl) (ho : sl.own = false) : Good B H (σ.set i (some v)) (Γ.set i sl) := by
  refine ⟨G.same, by rw [List.length_set, List.length_set, G.len], fun j sj o h1 h2 => ?_, fun j k sj sk l hjk h1 h2 o1 o2 e1 e2 => ?_⟩
  · rcases get_set h1 with ⟨rfl, rfl, _⟩ | ⟨n1, h1⟩
    · rcases get_set h2 with ⟨_, rfl, _⟩ | ⟨n2, _⟩
      · exact hs
      · exact absurd rfl n2
    · rcases get_set h2 with ⟨rfl, _, _⟩ | ⟨_, h2⟩
      · exact absurd rfl n1
      · exact G.at_ j sj o h1 h2
  · rcases get_set h1 with ⟨_, rfl, _⟩ | ⟨n1, h1⟩
    · rw [ho] at o1; cases o1
    · rcases get_set h2 with ⟨_, rfl, _⟩ | ⟨n2, h2⟩
      · rw [ho] at o2; cases o2
      · rw [List.getElem?_set_ne (Ne.symm n1)] at e1
        rw [List.getElem?_set_ne (Ne.symm n2)] at e2
        exact G.apart j k sj sk l hjk h1 h2 o1 o2 e1 e2
theorem Good.setD {d : PyData} {v : V} (G : Good B H σ Γ) (i : Nat) (h : Im H d v) : Good B H (σ.set i (some v)) (Γ.set i (.dat d)) := G.set i ⟨v, rfl, h⟩ rfl
/-- what is owned is tracked -/
theorem Good.owned {sl : Sl} {l : Addr} (G : Good B H σ Γ) (h : Γ[i]? = some sl) (o : sl.own = true) (e : σ[i]? = some (some (.ref l))) : B l = none ∧ ∃ u, H l = some u := by
  have q := G.at_ i sl _ h e
  cases sl with
  | lst ds => obtain ⟨l', vs, e1, e2, e3, _⟩ := q; cases e1; exact ⟨e2, _, e3⟩
  | dic ds => obtain ⟨l', vs, e1, e2, e3, _⟩ := q; cases e1; exact ⟨e2, _, e3⟩
  | un => cases o
  | dat _ => cases o
  | rls _ => cases o
  | raw _ => cases o
/-- a slot set to a new object of the frame's own; H: ahead of its making -/
theorem Good.setN {sl : Sl} {l : Addr} (G : Good B H σ Γ) (i : Nat) (hl : H l = none) (e : Same H H') (hs : SlOk B H' (some (.ref l)) sl) : Good B H' (σ.set i (some (.ref l))) (Γ.set i sl) := by
  have no : ∀ {j : Nat} {sj : Sl}, Γ[j]? = some sj → sj.own = true → σ[j]? ≠ some (some (.ref l)) := fun {j sj} g o z => by
    obtain ⟨_, u, hu⟩ := G.owned g o z
    rw [hl] at hu
    cases hu
  refine ⟨G.same.trans e, by rw [List.length_set, List.length_set, G.len], fun j sj o h1 h2 => ?_, fun j k sj sk m hjk h1 h2 o1 o2 e1 e2 => ?_⟩
  · rcases get_set h1 with ⟨rfl, rfl, _⟩ | ⟨n1, h1⟩
    · rcases get_set h2 with ⟨_, rfl, _⟩ | ⟨n2, _⟩
      · exact hs
      · exact absurd rfl n2
    · rcases get_set h2 with ⟨rfl, _, _⟩ | ⟨_, h2⟩
      · exact absurd rfl n1
      · exact (G.at_ j sj o h1 h2).mono e
  · by_cases hj : j = i
    · by_cases hk : k = i
      · exact hjk (hj.trans hk.symm)
      · have g2 : Γ[k]? = some sk := (get_set h2).elim (fun z => absurd z.1 hk) fun z => z.2
        have q2 : σ[k]? = some (some (.ref m)) := (get_set e2).elim (fun z => absurd z.1 hk) fun z => z.2
        have em : V.ref m = V.ref l := (get_set e1).elim (fun z => Option.some.inj z.2.1) fun z => absurd hj z.1
        cases em
        exact no g2 o2 q2
    · have g1 : Γ[j]? = some sj := (get_set h1).elim (fun z => absurd z.1 hj) fun z => z.2
      have q1 : σ[j]? = some (some (.ref m)) := (get_set e1).elim (fun z => absurd z.1 hj) fun z => z.2
      by_cases hk : k = i
      · have em : V.ref m = V.ref l := (get_set e2).elim (fun z => Option.some.inj z.2.1) fun z => absurd hk z.1
        cases em
        exact no g1 o1 q1
      · have g2 : Γ[k]? = some sk := (get_set h2).elim (fun z => absurd z.1 hk) fun z => z.2
        have q2 : σ[k]? = some (some (.ref m)) := (get_set e2).elim (fun z => absurd z.1 hk) fun z => z.2
        exact G.apart j k sj sk m hjk g1 g2 o1 o2 q1 q2
theorem Same.fresh {l : Addr} (s : Same B H) (h : H l = none) : B l = none := s.free h
/-- an object of the frame's own changes -/
theorem Good.upd {sl sl' : Sl} {l : Addr} {u : HO} (G : Good B H σ Γ) (h : Γ[i]? = some sl) (o : sl.own = true) (e : σ[i]? = some (some (.ref l))) (hs : SlOk B (L2.upd H l u) (some (.ref l)) sl') (ho : sl'.own = true) : Good B (L2.upd H l u) σ (Γ.set i sl') := by
  obtain ⟨hB, w, hw⟩ := G.owned h o e
  have nt : ∀ xs, H l ≠ some (.tup xs) := fun xs z => by
    have q := G.at_ i sl _ h e
    cases sl with
    | lst ds => obtain ⟨l', vs, e1, e2, e3, _⟩ := q; cases e1; rw [z] at e3; cases e3
    | dic ds => obtain ⟨l', vs, e1, e2, e3, _⟩ := q; cases e1; rw [z] at e3; cases e3
    | un => cases o
    | dat _ => cases o
    | rls _ => cases o
    | raw _ => cases o
  have tk : Tk H (L2.upd H l u) := Tk.upd nt
  refine ⟨fun a ob z => ?_, by rw [List.length_set, G.len], fun j sj oj h1 h2 => ?_, fun j k sj sk m hjk h1 h2 o1 o2 e1 e2 => ?_⟩
  · rw [upd_ne (ne_of_none z hB)]
    exact G.same _ _ z
  · rcases get_set h1 with ⟨rfl, rfl, _⟩ | ⟨n1, h1⟩
    · rw [e] at h2
      cases h2
      exact hs
    · have q := G.at_ j sj oj h1 h2
      cases sj with
      | un => trivial
      | dat d => obtain ⟨v, e1, q⟩ := q; exact ⟨v, e1, q.mono tk⟩
      | lst ds =>
        obtain ⟨m, vs, e1, e2, e3, q⟩ := q
        have nl : m ≠ l := fun z => by
          subst z
          exact G.apart j i _ _ m n1 h1 h rfl o (by rw [h2, e1]) e
        exact ⟨m, vs, e1, e2, by rw [upd_ne nl]; exact e3, q.mono tk⟩
      | rls ds => exact q
      | dic kvs =>
        obtain ⟨m, vs, e1, e2, e3, q1, q2⟩ := q
        have nl : m ≠ l := fun z => by
          subst z
          exact G.apart j i _ _ m n1 h1 h rfl o (by rw [h2, e1]) e
        exact ⟨m, vs, e1, e2, by rw [upd_ne nl]; exact e3, q1, q2.mono tk⟩
      | raw v => exact q
  · have old : ∀ {j : Nat} {sj : Sl}, (Γ.set i sl')[j]? = some sj → sj.own = true → ∃ s0, Γ[j]? = some s0 ∧ s0.own = true := fun {j sj} h1 o1 => by
      rcases get_set h1 with ⟨rfl, rfl, _⟩ | ⟨_, h1⟩
      · exact ⟨sl, h, o⟩
      · exact ⟨sj, h1, o1⟩
    obtain ⟨s1, g1, p1⟩ := old h1 o1
    obtain ⟨s2, g2, p2⟩ := old h2 o2
    exact G.apart j k s1 s2 m hjk g1 g2 p1 p2 e1 e2
/-- forgetting -/
theorem Good.weak {Γ' : List Sl} (G : Good B H σ Γ) (hl : Γ'.length = Γ.length) (h : ∀ (i : Nat) (sl : Sl), Γ'[i]? = some sl → sl = .un ∨ Γ[i]? = some sl) : Good B H σ Γ' := by
  refine ⟨G.same, G.len.trans hl.symm, fun i sl o h1 h2 => ?_, fun i j si sj l hij h1 h2 o1 o2 e1 e2 => ?_⟩
  · rcases h i sl h1 with rfl | q
    · trivial
    · exact G.at_ i sl o q h2
  · rcases h i si h1 with rfl | q1
    · cases o1
    · rcases h j sj h2 with rfl | q2
      · cases o2
      · exact G.apart i j si sj l hij q1 q2 o1 o2 e1 e2
/-- an object that no slot owns goes to the base -/
theorem Good.base {t : Addr} {u : HO} (G : Good B H σ Γ) (ht : B t = none) (hu : H t = some u) (hn : ∀ (i : Nat) (sl : Sl), Γ[i]? = some sl → sl.own = true → σ[i]? ≠ some (some (.ref t))) : Good (L2.upd B t u) H σ Γ := by
  refine ⟨fun a o z => ?_, G.len, fun i sl o h1 h2 => ?_, G.apart⟩
  · by_cases e : a = t
    · subst e
      rw [upd_same] at z
      cases z
      exact hu
    · rw [upd_ne e] at z
      exact G.same _ _ z
  · have q := G.at_ i sl o h1 h2
    have nt : sl.own = true → ∀ l, o = some (.ref l) → l ≠ t := fun ho l e z => hn i sl h1 ho (by rw [h2, e, z])
    cases sl with
    | un => trivial
    | dat d => exact q
    | lst ds => obtain ⟨l, vs, e1, e2, e3, q⟩ := q; exact ⟨l, vs, e1, by rw [upd_ne (nt rfl l e1)]; exact e2, e3, q⟩
    | rls ds => obtain ⟨l, vs, e1, e2, q⟩ := q; exact ⟨l, vs, e1, Same.new ht _ _ e2, q.mono (Tk.of (Same.new ht))⟩
    | dic kvs => obtain ⟨l, vs, e1, e2, e3, q⟩ := q; exact ⟨l, vs, e1, by rw [upd_ne (nt rfl l e1)]; exact e2, e3, q⟩
    | raw v => exact q
/-- .. an object that is newer than all that the slots own -/
theorem Good.base_new {t : Addr} {u : HO} {H0 : Hp} (G : Good B H0 σ Γ) (e : Same H0 H) (ht : H0 t = none) (hu : H t = some u) : Good (L2.upd B t u) H σ Γ :=
  (G.mono e).base (G.same.free ht) hu fun i sl h1 o z => by
    obtain ⟨_, w, hw⟩ := G.owned h1 o z
    rw [ht] at hw
    cases hw
end
end Dw
/-! Dw: expressions -/
namespace Dw
open PySem PySem.Spec PyProof.Rows L2
abbrev VR := Hp → Hp → V → Prop
/-- evaluates to what R tells, all that was tracked stays -/
def EV (X : Cx) (e : Expr) (σ : L2.St) (H : Hp) (R : VR) : Prop := ∀ H1, Same H H1 → ∀ Q : VK, (∀ v H2, Same H1 H2 → R H1 H2 v → Q v H2) → RE X e σ H1 Q
def rD (d : PyData) : VR := fun _ H2 v => Im H2 d v
def rN (ds : List PyData) : VR := fun H1 H2 v => ∃ l vs, v = .ref l ∧ H1 l = none ∧ H2 l = some (.lst vs) ∧ ImAll H2 ds vs
def rR (ds : List PyData) : VR := fun _ H2 v => ∃ l vs, v = .ref l ∧ H2 l = some (.lst vs) ∧ ImAll H2 ds vs
def rX (u : V) : VR := fun _ _ v => v = u
/-- data | a new list | a list | the very value -/
abbrev ED (X : Cx) (e : Expr) (σ : L2.St) (H : Hp) (d : PyData) : Prop := EV X e σ H (rD d)
abbrev EN (X : Cx) (e : Expr) (σ : L2.St) (H : Hp) (ds : List PyData) : Prop := EV X e σ H (rN ds)
abbrev ER (X : Cx) (e : Expr) (σ : L2.St) (H : Hp) (ds : List PyData) : Prop := EV X e σ H (rR ds)
abbrev EX (X : Cx) (e : Expr) (σ : L2.St) (H : Hp) (u : V) : Prop := EV X e σ H (rX u)
def ET (X : Cx) (e : Expr) (σ : L2.St) (H : Hp) (b : Bool) : Prop := ∀ H1, Same H H1 → ∀ Q : Bool → Hp → Prop, (∀ H2, Same H1 H2 → Q b H2) → RT X e σ H1 Q
def EW (X : Cx) (e : Expr) (σ : L2.St) (H : Hp) (b : Bool) : Prop := ∀ H1, Same H H1 → ∀ Q : Bool → Hp → Prop, (∀ H2, Same H1 H2 → Q b H2) → RW X e σ H1 Q
section
variable {X : Cx} {B H H' : Hp} {σ : L2.St} {Γ : List Sl} {a b c e : Expr} {pos p p2 : Pos} {d : PyData} {ds es : List PyData} {i j : Int} {x y : Str} {R S : VR}
theorem EV.mono (h : EV X e σ H R) (s : Same H H') : EV X e σ H' R := fun H1 s1 => h H1 (s.trans s1)
theorem EV.imp (h : EV X e σ H R) (k : ∀ H1 H2 v, Same H H1 → Same H1 H2 → R H1 H2 v → S H1 H2 v) : EV X e σ H S := fun H1 s1 Q q => h H1 s1 Q fun v H2 s2 r => q v H2 s2 (k H1 H2 v s1 s2 r)
theorem EN.er (h : EN X e σ H ds) : ER X e σ H ds := EV.imp h fun H1 H2 v _ _ ⟨l, vs, e1, _, e3, q⟩ => ⟨l, vs, e1, e3, q⟩
theorem ED.to {d' : PyData} (h : ED X e σ H d) (k : d = d') : ED X e σ H d' := k ▸ h
theorem EN.to {ds' : List PyData} (h : EN X e σ H ds) (k : ds = ds') : EN X e σ H ds' := k ▸ h
theorem ER.to {ds' : List PyData} (h : ER X e σ H ds) (k : ds = ds') : ER X e σ H ds' := k ▸ h
theorem ET.to {b b' : Bool} (h : ET X e σ H b) (k : b = b') : ET X e σ H b' := k ▸ h
theorem ev_pe {t : TE} (h : PE X e t) (q : ∀ H1, Same H H1 → ∀ Q : VK, (∀ v H2, Same H1 H2 → R H1 H2 v → Q v H2) → t σ H1 Q) : EV X e σ H R := fun H1 s Q k => RE.of h (q H1 s Q k)

/-! ### names and constants -/
theorem ed_int {k : Nat} : ED X (.Constant (.int i) k pos) σ H (.int i) := ev_pe pe_int fun H1 _ Q k => k _ H1 (Same.refl _) (im_int i)
theorem ed_str {k : Nat} : ED X (.Constant (.str x) k pos) σ H (.str x) := ev_pe pe_str fun H1 _ Q k => k _ H1 (Same.refl _) (im_str x)
theorem ed_bl {k : Nat} {b : Bool} : ED X (.Constant (.bool b) k pos) σ H (.bool b) := ev_pe pe_bl fun H1 _ Q k => k _ H1 (Same.refl _) (im_bool b)
theorem ed_non {k : Nat} : ED X (.Constant .none k pos) σ H .none := ev_pe pe_non fun H1 _ Q k => k _ H1 (Same.refl _) im_none
/-- a global constant -/
theorem ed_gI {t : Tok} (hg : Gl X x) (hm : X.mg x = some (.int i t)) (hd : (x == ("__debug__" : Str)) = false := by decide) : ED X (.Name x pos) σ H (.int i) :=
  ev_pe (pe_glob (v := .int i) hg hm ⟨t, rfl⟩ hd) fun H1 _ Q k => k _ H1 (Same.refl _) (im_int i)
theorem ed_gS {t : Tok} (hg : Gl X x) (hm : X.mg x = some (.str y t)) (hd : (x == ("__debug__" : Str)) = false := by decide) : ED X (.Name x pos) σ H (.str y) :=
  ev_pe (pe_glob (v := .str y) hg hm ⟨t, rfl⟩ hd) fun H1 _ Q k => k _ H1 (Same.refl _) (im_str y)
/-- a global reference (a class) -/
theorem ex_g {a : Addr} (hg : Gl X x) (hm : X.mg x = some (.ref a)) (hd : (x == ("__debug__" : Str)) = false := by decide) : EX X (.Name x pos) σ H (.ref a) :=
  ev_pe (pe_glob (v := .ref a) hg hm rfl hd) fun H1 _ Q k => k _ H1 (Same.refl _) rfl
/-- a slot: data, a list, the very value -/
theorem vd (n : Nat) (G : Good B H σ Γ := by assumption) (h : Γ[n]? = some (.dat d) := by rfl) (hN : X.N[n]? = some x := by rfl) (hv : Vis X.env.scope x := by first | exact Or.inl rfl | exact Or.inr (Or.inl rfl) | exact Or.inr (Or.inr rfl))
    (hd : (x == ("__debug__" : Str)) = false := by decide) (hcd : (x == ("__classdict__" : Str)) = false := by decide) : ED X (.Name x pos) σ H d :=
  ev_pe (pe_var hN hv hd hcd) fun H1 s Q k => by
    obtain ⟨v, e1, q⟩ := G.dat h
    exact ⟨v, e1, k v H1 (Same.refl _) (q.mono (Tk.of s))⟩
theorem vl (n : Nat) (G : Good B H σ Γ := by assumption) (h : Γ[n]? = some (.lst ds) := by rfl) (hN : X.N[n]? = some x := by rfl) (hv : Vis X.env.scope x := by first | exact Or.inl rfl | exact Or.inr (Or.inl rfl) | exact Or.inr (Or.inr rfl))
    (hd : (x == ("__debug__" : Str)) = false := by decide) (hcd : (x == ("__classdict__" : Str)) = false := by decide) : ER X (.Name x pos) σ H ds :=
  ev_pe (pe_var hN hv hd hcd) fun H1 s Q k => by
    obtain ⟨l, vs, e1, _, e2, q⟩ := G.lst h
    exact ⟨_, e1, k _ H1 (Same.refl _) ⟨l, vs, rfl, s _ _ e2, q.mono (Tk.of s)⟩⟩
theorem vr (n : Nat) (G : Good B H σ Γ := by assumption) (h : Γ[n]? = some (.rls ds) := by rfl) (hN : X.N[n]? = some x := by rfl) (hv : Vis X.env.scope x := by first | exact Or.inl rfl | exact Or.inr (Or.inl rfl) | exact Or.inr (Or.inr rfl))
    (hd : (x == ("__debug__" : Str)) = false := by decide) (hcd : (x == ("__classdict__" : Str)) = false := by decide) : ER X (.Name x pos) σ H ds :=
  ev_pe (pe_var hN hv hd hcd) fun H1 s Q k => by
    obtain ⟨l, vs, e1, _, e2, q⟩ := G.rls h
    exact ⟨_, e1, k _ H1 (Same.refl _) ⟨l, vs, rfl, s _ _ e2, q.mono (Tk.of s)⟩⟩
theorem vx {v : V} (n : Nat) (G : Good B H σ Γ := by assumption) (h : Γ[n]? = some (.raw v) := by rfl) (hN : X.N[n]? = some x := by rfl) (hv : Vis X.env.scope x := by first | exact Or.inl rfl | exact Or.inr (Or.inl rfl) | exact Or.inr (Or.inr rfl))
    (hd : (x == ("__debug__" : Str)) = false := by decide) (hcd : (x == ("__classdict__" : Str)) = false := by decide) : EX X (.Name x pos) σ H v :=
  ev_pe (pe_var hN hv hd hcd) fun H1 s Q k => ⟨v, G.raw h, k _ H1 (Same.refl _) rfl⟩

/-! ### operators -/
/-- two operands of data, by values -/
theorem ed_bin {op : Operator} {r : R2} {d1 d2 : PyData} (ho : OpR X (binaryOp op) r) (ha : ED X a σ H d1) (hb : ED X b σ H d2)
    (hr : ∀ (H : Hp) (x y : V) (Q : VK), Im H d1 x → Im H d2 y → (∀ z H2, Same H H2 → Im H2 d z → Q z H2) → r x y H Q) : ED X (.BinOp a op b pos) σ H d :=
  ev_pe (pe_op ho re_pe re_pe) fun H1 s1 Q q => ha H1 s1 _ fun x H2 s2 hx => hb H2 (s1.trans s2) _ fun y H3 s3 hy => hr H3 x y Q (Im.mono (Tk.of s3) _ _ hx) hy fun z H4 s4 hz => q z H4 ((s2.trans s3).trans s4) hz
theorem ed_binI {op : Operator} {g : Int → Int → Int} {C : Int → Int → Prop} (ho : OpR X (binaryOp op) (rI C fun i j => .int (g i j))) (ha : ED X a σ H (.int i)) (hb : ED X b σ H (.int j)) (hc : C i j) : ED X (.BinOp a op b pos) σ H (.int (g i j)) :=
  ed_bin ho ha hb fun H x y Q hx hy q => ⟨i, j, hx.ofInt, hy.ofInt, hc, q _ H (Same.refl _) (im_int _)⟩
theorem ed_binI0 {op : Operator} {g : Int → Int → Int} (ho : OpR X (binaryOp op) (rI0 fun i j => .int (g i j))) (ha : ED X a σ H (.int i)) (hb : ED X b σ H (.int j)) : ED X (.BinOp a op b pos) σ H (.int (g i j)) :=
  ed_bin ho ha hb fun H x y Q hx hy q => ⟨i, j, hx.ofInt, hy.ofInt, q _ H (Same.refl _) (im_int _)⟩
theorem ed_add (ha : ED X a σ H (.int i)) (hb : ED X b σ H (.int j)) : ED X (.BinOp a .Add b pos) σ H (.int (i + j)) := ed_binI0 op_add ha hb
theorem ed_sub (ha : ED X a σ H (.int i)) (hb : ED X b σ H (.int j)) : ED X (.BinOp a .Sub b pos) σ H (.int (i - j)) := ed_binI0 op_sub ha hb
theorem ed_mul (ha : ED X a σ H (.int i)) (hb : ED X b σ H (.int j)) (hc : CMul i j) : ED X (.BinOp a .Mult b pos) σ H (.int (i * j)) := ed_binI op_mul ha hb hc
theorem ed_fdiv (ha : ED X a σ H (.int i)) (hb : ED X b σ H (.int j)) (hc : CDiv i j) : ED X (.BinOp a .FloorDiv b pos) σ H (.int (i / j)) := ed_binI op_fdiv ha hb hc
theorem ed_mod (ha : ED X a σ H (.int i)) (hb : ED X b σ H (.int j)) (hc : 0 < j) : ED X (.BinOp a .Mod b pos) σ H (.int (i % j)) := ed_binI op_mod ha hb hc
theorem ed_pow (ha : ED X a σ H (.int i)) (hb : ED X b σ H (.int j)) (hc : CPow i j) : ED X (.BinOp a .Pow b pos) σ H (.int (i ^ j.toNat)) := ed_binI op_pow ha hb hc
theorem ed_addS (ha : ED X a σ H (.str x)) (hb : ED X b σ H (.str y)) (hc : x.length + y.length ≤ sizeLine) : ED X (.BinOp a .Add b pos) σ H (.str (x ++ y)) :=
  ed_bin op_add_str ha hb fun H u v Q hx hy q => ⟨x, y, hx.ofStr, hy.ofStr, hc, q _ H (Same.refl _) (im_str _)⟩
/-- tuple + tuple -/
theorem ed_addT (ha : ED X a σ H (.tuple ds)) (hb : ED X b σ H (.tuple es)) (hc : ds.length + es.length ≤ sizeLine) : ED X (.BinOp a .Add b pos) σ H (.tuple (ds ++ es)) :=
  ed_bin op_catA ha hb fun H x y Q hx hy q => by
    obtain ⟨l, xs, rfl, h1, h2⟩ := hx.ofTup
    obtain ⟨m, ys, rfl, g1, g2⟩ := hy.ofTup
    refine ⟨l, m, xs, ys, rfl, rfl, SqT.of h1, SqT.of g1, by rw [h2.length, g2.length]; exact hc, fun z => ?_, fun _ z => ?_, fun _ _ p hp => ?_⟩
    · refine q _ H (Same.refl _) (im_tup g1 ?_)
      subst z
      have e : ds = [] := List.eq_nil_of_length_eq_zero (by rw [← h2.length]; rfl)
      rw [e]
      exact g2
    · refine q _ H (Same.refl _) (im_tup h1 ?_)
      subst z
      have e : es = [] := List.eq_nil_of_length_eq_zero (by rw [← g2.length]; rfl)
      rw [e, List.append_nil]
      exact h2
    · exact q _ _ (Same.new hp) (im_tup upd_same ((h2.append g2).mono (Tk.of (Same.new hp))))
/-- two lists -/
theorem ev_cat (ha : ER X a σ H ds) (hb : ER X b σ H es) (hc : ds.length + es.length ≤ sizeLine) : EN X (.BinOp a .Add b pos) σ H (ds ++ es) :=
  ev_pe (pe_op op_cat re_pe re_pe) fun H1 s1 Q q => ha H1 s1 _ fun x H2 s2 ⟨l, xs, e1, h1, h2⟩ => hb H2 (s1.trans s2) _ fun y H3 s3 ⟨m, ys, e2, g1, g2⟩ =>
    ⟨l, m, xs, ys, e1, e2, s3 _ _ h1, g1, by rw [h2.length, g2.length]; exact hc, fun p hp => q _ _ ((s2.trans s3).trans (Same.new hp)) ⟨p, _, rfl, (s2.trans s3).free hp, upd_same, ((h2.mono (Tk.of s3)).append g2).mono (Tk.of (Same.new hp))⟩⟩
theorem ImAll.rep : ∀ {n : Nat} {ds : List PyData} {vs : List V}, ImAll H ds vs → ImAll H (List.replicate n ds).flatten (List.replicate n vs).flatten
  | 0, _, _, _ => imAll_nil
  | n + 1, ds, vs, h => by
    rw [List.replicate_succ, List.replicate_succ, List.flatten_cons, List.flatten_cons]
    exact h.append (ImAll.rep h)
theorem flatten_rep1 {α : Type} (x : α) : ∀ n : Nat, (List.replicate n [x]).flatten = List.replicate n x
  | 0 => rfl
  | n + 1 => by rw [List.replicate_succ, List.flatten_cons, flatten_rep1 x n, List.replicate_succ]; rfl
/-- [d] * n -/
theorem ev_rep1 (ha : ER X a σ H [d]) (hb : ED X b σ H (.int i)) (h0 : -(2 ^ 63) ≤ i) (h1 : i < 2 ^ 63) (hc : i.toNat ≤ sizeLine) : EN X (.BinOp a .Mult b pos) σ H (List.replicate i.toNat d) :=
  ev_pe (pe_op op_rep re_pe re_pe) fun H1 s1 Q q => ha H1 s1 _ fun x H2 s2 ⟨l, xs, e1, g1, g2⟩ => hb H2 (s1.trans s2) _ fun y H3 s3 hy =>
    ⟨l, i, xs, e1, Im.ofInt hy, s3 _ _ g1, h0, h1, by rw [g2.length, List.length_singleton, Nat.one_mul]; exact hc, fun p hp => q _ _ ((s2.trans s3).trans (Same.new hp))
      ⟨p, _, rfl, (s2.trans s3).free hp, upd_same, by
        have q2 := (ImAll.rep (n := i.toNat) (g2.mono (Tk.of s3))).mono (Tk.of (Same.new (o := .lst (List.replicate i.toNat xs).flatten) hp))
        rw [flatten_rep1] at q2
        exact q2⟩⟩

/-! ### displays -/
/-- arguments, one by one -/
def EA (X : Cx) (es : List Expr) (σ : L2.St) (H : Hp) (Rs : List VR) : Prop := ∀ H1, Same H H1 → ∀ Q : List V → Hp → Prop, (∀ vs H2, Same H1 H2 → Paired (fun (R : VR) v => R H1 H2 v) Rs vs → Q vs H2) → RA X es σ H1 Q
/-- what stays true -/
def Stable (R : VR) : Prop := ∀ H0 H1 H2 H3 v, Same H0 H1 → Same H2 H3 → R H1 H2 v → R H0 H3 v
theorem st_D : Stable (rD d) := fun _ _ _ _ v _ s h => Im.mono (Tk.of s) _ _ h
theorem st_N : Stable (rN ds) := fun _ _ _ _ v s0 s ⟨l, vs, e1, e2, e3, q⟩ => ⟨l, vs, e1, s0.free e2, s _ _ e3, q.mono (Tk.of s)⟩
theorem st_R : Stable (rR ds) := fun _ _ _ _ v _ s ⟨l, vs, e1, e3, q⟩ => ⟨l, vs, e1, s _ _ e3, q.mono (Tk.of s)⟩
theorem st_X {u : V} : Stable (rX u) := fun _ _ _ _ v _ _ h => h
theorem Paired.mapI {α β : Type} {F G : α → β → Prop} {xs : List α} {ys : List β} (h : Paired F xs ys) (k : ∀ x y, x ∈ xs → F x y → G x y) : Paired G xs ys := by
  induction h with
  | nil => exact .nil
  | cons h t ih => exact .cons (k _ _ List.mem_cons_self h) (ih fun x y m => k x y (List.mem_cons_of_mem _ m))
theorem ea_nil : EA X [] σ H [] := fun H1 _ Q q => RA.of pa_nil (q [] H1 (Same.refl _) .nil)
theorem ea_cons {es : List Expr} {Rs : List VR} (ha : EV X e σ H R) (hs : EA X es σ H Rs) (st : Stable R) (sts : ∀ R ∈ Rs, Stable R)
    (hst : starEach (e :: es) X.env = (false, eval e X.env) :: starEach es X.env := by rfl) : EA X (e :: es) σ H (R :: Rs) := fun H1 s1 Q q =>
  RA.of (pa_cons re_pe ra_pa hst) (ha H1 s1 _ fun v H2 s2 hv => hs H2 (s1.trans s2) _ fun vs H3 s3 hvs => q _ _ (s2.trans s3) (.cons (st _ _ _ _ _ (Same.refl _) s3 hv) (Paired.mapI hvs fun R v m r => sts R m _ _ _ _ _ s2 (Same.refl _) r)))
theorem ea_d {es : List Expr} {Rs : List VR} (ha : ED X e σ H d) (hs : EA X es σ H Rs ∧ ∀ R ∈ Rs, Stable R) (hst : starEach (e :: es) X.env = (false, eval e X.env) :: starEach es X.env := by rfl) : EA X (e :: es) σ H (rD d :: Rs) ∧ ∀ R ∈ rD d :: Rs, Stable R :=
  ⟨ea_cons ha hs.1 st_D hs.2 hst, fun R m => (List.mem_cons.mp m).elim (fun z => z ▸ st_D) (hs.2 R)⟩
theorem ea_n {es : List Expr} {Rs : List VR} (ha : EN X e σ H ds) (hs : EA X es σ H Rs ∧ ∀ R ∈ Rs, Stable R) (hst : starEach (e :: es) X.env = (false, eval e X.env) :: starEach es X.env := by rfl) : EA X (e :: es) σ H (rN ds :: Rs) ∧ ∀ R ∈ rN ds :: Rs, Stable R :=
  ⟨ea_cons ha hs.1 st_N hs.2 hst, fun R m => (List.mem_cons.mp m).elim (fun z => z ▸ st_N) (hs.2 R)⟩
theorem ea_r {es : List Expr} {Rs : List VR} (ha : ER X e σ H ds) (hs : EA X es σ H Rs ∧ ∀ R ∈ Rs, Stable R) (hst : starEach (e :: es) X.env = (false, eval e X.env) :: starEach es X.env := by rfl) : EA X (e :: es) σ H (rR ds :: Rs) ∧ ∀ R ∈ rR ds :: Rs, Stable R :=
  ⟨ea_cons ha hs.1 st_R hs.2 hst, fun R m => (List.mem_cons.mp m).elim (fun z => z ▸ st_R) (hs.2 R)⟩
theorem ea_x {es : List Expr} {Rs : List VR} {u : V} (ha : EX X e σ H u) (hs : EA X es σ H Rs ∧ ∀ R ∈ Rs, Stable R) (hst : starEach (e :: es) X.env = (false, eval e X.env) :: starEach es X.env := by rfl) : EA X (e :: es) σ H (rX u :: Rs) ∧ ∀ R ∈ rX u :: Rs, Stable R :=
  ⟨ea_cons ha hs.1 st_X hs.2 hst, fun R m => (List.mem_cons.mp m).elim (fun z => z ▸ st_X) (hs.2 R)⟩
theorem ea_0 : EA X [] σ H [] ∧ ∀ R ∈ ([] : List VR), Stable R := ⟨ea_nil, fun R m => nomatch m⟩
theorem pd_all : ∀ {ds : List PyData} {vs : List V}, Paired (fun (R : VR) v => R H H' v) (ds.map rD) vs → ImAll H' ds vs
  | [], _, h => by cases h; exact imAll_nil
  | d :: ds, _, h => by
    cases h with
    | cons h t => exact imAll_cons h (pd_all t)
theorem ed_tup {es : List Expr} {k : Nat} (h : EA X es σ H (ds.map rD) ∧ ∀ R ∈ ds.map rD, Stable R) (hl : ds.length ≤ sizeLine := by first | (show _ ≤ 16777216; decide) | (show List.length _ ≤ 16777216; simp only [List.length_cons, List.length_nil]; decide)) : ED X (.Tuple es k pos) σ H (.tuple ds) :=
  ev_pe (pe_tup ra_pa) fun H1 s1 Q q => h.1 H1 s1 _ fun vs H2 s2 r => ⟨by rw [(pd_all r).length]; exact hl, fun p hp => q _ _ (s2.trans (Same.new hp)) (im_tup upd_same ((pd_all r).mono (Tk.of (Same.new hp))))⟩
theorem en_lst {es : List Expr} (h : EA X es σ H (ds.map rD) ∧ ∀ R ∈ ds.map rD, Stable R) (hl : ds.length ≤ sizeLine := by first | (show _ ≤ 16777216; decide) | (show List.length _ ≤ 16777216; simp only [List.length_cons, List.length_nil]; decide)) : EN X (.List es pos) σ H ds :=
  ev_pe (pe_lst ra_pa) fun H1 s1 Q q => h.1 H1 s1 _ fun vs H2 s2 r => ⟨by rw [(pd_all r).length]; exact hl, fun p hp => q _ _ (s2.trans (Same.new hp)) ⟨p, vs, rfl, s2.free hp, upd_same, (pd_all r).mono (Tk.of (Same.new hp))⟩⟩
theorem en_nil : EN X (.List [] pos) σ H [] := en_lst (ds := []) ea_0

/-! ### subscripts -/
theorem atI_of {α : Type} {xs : List α} {k : Nat} {v : α} (hi : i = (k : Int)) (h : xs[k]? = some v) : atI xs i = some v := by
  rw [hi]
  exact atI_nat h
theorem ed_ixT (k : Nat) (ha : ED X a σ H (.tuple ds)) (hb : ED X b σ H (.int i)) (hi : i = (k : Int)) (h : ds[k]? = some d) (hs : PlainIx b := by exact fun _ _ => rfl) : ED X (.Subscript a b pos) σ H d :=
  ev_pe (pe_ix ix_tup re_pe re_pe hs) fun H1 s1 Q q => ha H1 s1 _ fun x H2 s2 hx => hb H2 (s1.trans s2) _ fun y H3 s3 hy => by
    obtain ⟨l, xs, rfl, h1, h2⟩ := Im.ofTup hx
    obtain ⟨v, e1, q1⟩ := h2.get h
    exact ⟨l, xs, i, v, rfl, Im.ofInt hy, SqT.of (s3 _ _ h1), atI_of hi e1, q v H3 (s2.trans s3) (q1.mono (Tk.of s3))⟩
theorem ed_ixL (k : Nat) (ha : ER X a σ H ds) (hb : ED X b σ H (.int i)) (hi : i = (k : Int)) (h : ds[k]? = some d) (hs : PlainIx b := by exact fun _ _ => rfl) : ED X (.Subscript a b pos) σ H d :=
  ev_pe (pe_ix ix_list re_pe re_pe hs) fun H1 s1 Q q => ha H1 s1 _ fun x H2 s2 ⟨l, xs, e, h1, h2⟩ => hb H2 (s1.trans s2) _ fun y H3 s3 hy => by
    obtain ⟨v, e1, q1⟩ := h2.get h
    exact ⟨l, xs, i, v, e, Im.ofInt hy, SqL.of (s3 _ _ h1), atI_of hi e1, q v H3 (s2.trans s3) (q1.mono (Tk.of s3))⟩
theorem ed_ixS (k : Nat) {n : Nat} (ha : ED X a σ H (.str x)) (hb : ED X b σ H (.int i)) (hi : i = (k : Int)) (h : x.cps.toList[k]? = some n) (hz : x.length ≤ sizeLine) (hs : PlainIx b := by exact fun _ _ => rfl) : ED X (.Subscript a b pos) σ H (.str ⟨#[n]⟩) :=
  ev_pe (pe_ix ix_str re_pe re_pe hs) fun H1 s1 Q q => ha H1 s1 _ fun u H2 s2 hx => hb H2 (s1.trans s2) _ fun v H3 s3 hy =>
    ⟨x, i, n, Im.ofStr hx, Im.ofInt hy, hz, atI_of hi h, q _ H3 (s2.trans s3) (im_str _)⟩
/-- the last one -/
theorem ed_ixM1 (ha : ER X a σ H (ds ++ [d])) (hb : ED X b σ H (.int (-1))) (hs : PlainIx b := by exact fun _ _ => rfl) : ED X (.Subscript a b pos) σ H d :=
  ev_pe (pe_ix ix_list re_pe re_pe hs) fun H1 s1 Q q => ha H1 s1 _ fun x H2 s2 ⟨l, xs, e, h1, h2⟩ => hb H2 (s1.trans s2) _ fun y H3 s3 hy => by
    have hl := h2.length
    rw [List.length_append, List.length_singleton] at hl
    obtain ⟨v, e1, q1⟩ := h2.get (i := ds.length) (d := d) (by simp)
    have e3 : xs.drop ds.length = [v] := by
      rw [List.drop_eq_getElem_cons (by omega)]
      have e4 : xs[ds.length]'(by omega) = v := by
        obtain ⟨_, z⟩ := List.getElem?_eq_some_iff.mp e1
        exact z
      rw [e4, List.drop_eq_nil_of_le (by omega)]
    have e2 : xs = xs.take ds.length ++ [v] := (List.take_append_drop ds.length xs).symm.trans (by rw [e3])
    refine ⟨l, xs, -1, v, e, Im.ofInt hy, SqL.of (s3 _ _ h1), ?_, q v H3 (s2.trans s3) (q1.mono (Tk.of s3))⟩
    rw [e2]
    exact atI_last _ _
/-- -1 as it is written -/
theorem ed_neg (ha : ED X a σ H (.int i)) : ED X (.UnaryOp .USub a pos) σ H (.int (-i)) :=
  ev_pe (pe_un un_neg re_pe) fun H1 s1 Q q => ha H1 s1 _ fun x H2 s2 hx => ⟨i, Im.ofInt hx, q _ H2 s2 (im_int _)⟩

/-! ### comparisons -/
theorem ed_cmpI {op : CmpOp} {g : Int → Int → Bool} (ho : OpR X (compareOp op) (rI0 fun i j => .bl (g i j))) (ha : ED X a σ H (.int i)) (hb : ED X b σ H (.int j)) (hm : behindInMarks op b = false) : ED X (.Compare a [op] [b] pos) σ H (.bool (g i j)) :=
  ev_pe (pe_cmpR ho re_pe re_pe hm) fun H1 s1 Q q => ha H1 s1 _ fun x H2 s2 hx => hb H2 (s1.trans s2) _ fun y H3 s3 hy => ⟨i, j, Im.ofInt hx, Im.ofInt hy, q _ H3 (s2.trans s3) (im_bool _)⟩
theorem et_cmpI {op : CmpOp} {g : Int → Int → Bool} (ho : OpR X (compareOp op) (rI0 fun i j => .bl (g i j))) (ha : ED X a σ H (.int i)) (hb : ED X b σ H (.int j)) (hm : behindInMarks op b = false) : ET X (.Compare a [op] [b] pos) σ H (g i j) := fun H1 s1 Q q =>
  RT.of (pt_cmpR ho re_pe re_pe hm) (ha H1 s1 _ fun x H2 s2 hx => hb H2 (s1.trans s2) _ fun y H3 s3 hy => ⟨i, j, Im.ofInt hx, Im.ofInt hy, _, rfl, q H3 (s2.trans s3)⟩)
theorem et_lt (ha : ED X a σ H (.int i)) (hb : ED X b σ H (.int j)) : ET X (.Compare a [.Lt] [b] pos) σ H (decide (i < j)) := et_cmpI op_lt ha hb (nomark _)
theorem et_le (ha : ED X a σ H (.int i)) (hb : ED X b σ H (.int j)) : ET X (.Compare a [.LtE] [b] pos) σ H (decide (i ≤ j)) := et_cmpI op_le ha hb (nomark _)
theorem et_gt (ha : ED X a σ H (.int i)) (hb : ED X b σ H (.int j)) : ET X (.Compare a [.Gt] [b] pos) σ H (decide (j < i)) := et_cmpI op_gt ha hb (nomark _)
theorem et_ge (ha : ED X a σ H (.int i)) (hb : ED X b σ H (.int j)) : ET X (.Compare a [.GtE] [b] pos) σ H (decide (j ≤ i)) := et_cmpI op_ge ha hb (nomark _)
theorem ed_gt (ha : ED X a σ H (.int i)) (hb : ED X b σ H (.int j)) : ED X (.Compare a [.Gt] [b] pos) σ H (.bool (decide (j < i))) := ed_cmpI op_gt ha hb (nomark _)
/-- == and != of data -/
theorem cmpD {d1 d2 : PyData} (k : H = H) (x y : V) (hx : Im H d1 x) (hy : Im H d2 y) : ∃ d e, Dp X.K H x d ∧ Dp X.K H y e ∧ d = d1 ∧ e = d2 := ⟨d1, d2, Im.dp _ _ hx, Im.dp _ _ hy, rfl, rfl⟩
theorem ed_eq {d1 d2 : PyData} (hu : X.A.units + 64 < cLine) (ha : ED X a σ H d1) (hb : ED X b σ H d2) (h1 : SeqAt.shaped d1 = true) (h2 : SeqAt.shaped d2 = true) : ED X (.Compare a [.Eq] [b] pos) σ H (.bool (PyData.eqv d1 d2)) :=
  ev_pe (pe_cmpR (op_eqD hu) re_pe re_pe (nomark _)) fun H1 s1 Q q => ha H1 s1 _ fun x H2 s2 hx => hb H2 (s1.trans s2) _ fun y H3 s3 hy => ⟨d1, d2, Im.dp _ _ (Im.mono (Tk.of s3) _ _ hx), Im.dp _ _ hy, h1, h2, q _ H3 (s2.trans s3) (im_bool _)⟩
theorem et_eq {d1 d2 : PyData} (hu : X.A.units + 64 < cLine) (ha : ED X a σ H d1) (hb : ED X b σ H d2) (h1 : SeqAt.shaped d1 = true) (h2 : SeqAt.shaped d2 = true) : ET X (.Compare a [.Eq] [b] pos) σ H (PyData.eqv d1 d2) := fun H1 s1 Q q =>
  RT.of (pt_cmpR (op_eqD hu) re_pe re_pe (nomark _)) (ha H1 s1 _ fun x H2 s2 hx => hb H2 (s1.trans s2) _ fun y H3 s3 hy => ⟨d1, d2, Im.dp _ _ (Im.mono (Tk.of s3) _ _ hx), Im.dp _ _ hy, h1, h2, _, rfl, q H3 (s2.trans s3)⟩)
theorem et_ne {d1 d2 : PyData} (hu : X.A.units + 64 < cLine) (ha : ED X a σ H d1) (hb : ED X b σ H d2) (h1 : SeqAt.shaped d1 = true) (h2 : SeqAt.shaped d2 = true) : ET X (.Compare a [.NotEq] [b] pos) σ H (!PyData.eqv d1 d2) := fun H1 s1 Q q =>
  RT.of (pt_cmpR (op_neD hu) re_pe re_pe (nomark _)) (ha H1 s1 _ fun x H2 s2 hx => hb H2 (s1.trans s2) _ fun y H3 s3 hy => ⟨d1, d2, Im.dp _ _ (Im.mono (Tk.of s3) _ _ hx), Im.dp _ _ hy, h1, h2, _, rfl, q H3 (s2.trans s3)⟩)
theorem eqI : PyData.eqv (.int i) (.int j) = decide (i = j) := by simp [PyData.eqv, Bool.beq_eq_decide_eq]
theorem shI : SeqAt.shaped (.int i) = true := by rfl
/-- texts -/
theorem et_eqS (ha : ED X a σ H (.str x)) (hb : ED X b σ H (.str y)) : ET X (.Compare a [.Eq] [b] pos) σ H (decide (x = y)) := fun H1 s1 Q q =>
  RT.of (pt_cmpR op_eq re_pe re_pe (nomark _)) (ha H1 s1 _ fun u H2 s2 hx => hb H2 (s1.trans s2) _ fun v H3 s3 hy => by
    rw [Im.ofStr hx, Im.ofStr hy]
    refine ⟨rfl, _, rfl, ?_⟩
    rw [show decide (V.str x = V.str y) = decide (x = y) from decide_eq_decide.mpr ⟨fun z => V.str.inj z, fun z => by rw [z]⟩]
    exact q H3 (s2.trans s3))
theorem et_neS (ha : ED X a σ H (.str x)) (hb : ED X b σ H (.str y)) : ET X (.Compare a [.NotEq] [b] pos) σ H (!decide (x = y)) := fun H1 s1 Q q =>
  RT.of (pt_cmpR op_ne re_pe re_pe (nomark _)) (ha H1 s1 _ fun u H2 s2 hx => hb H2 (s1.trans s2) _ fun v H3 s3 hy => by
    rw [Im.ofStr hx, Im.ofStr hy]
    refine ⟨rfl, _, rfl, ?_⟩
    rw [show decide (V.str x = V.str y) = decide (x = y) from decide_eq_decide.mpr ⟨fun z => V.str.inj z, fun z => by rw [z]⟩]
    exact q H3 (s2.trans s3))
theorem ed_eqS (ha : ED X a σ H (.str x)) (hb : ED X b σ H (.str y)) : ED X (.Compare a [.Eq] [b] pos) σ H (.bool (decide (x = y))) :=
  ev_pe (pe_cmpR op_eq re_pe re_pe (nomark _)) fun H1 s1 Q q => ha H1 s1 _ fun u H2 s2 hx => hb H2 (s1.trans s2) _ fun v H3 s3 hy => by
    rw [Im.ofStr hx, Im.ofStr hy]
    refine ⟨rfl, ?_⟩
    rw [show decide (V.str x = V.str y) = decide (x = y) from decide_eq_decide.mpr ⟨fun z => V.str.inj z, fun z => by rw [z]⟩]
    exact q _ H3 (s2.trans s3) (im_bool _)
theorem et_eqI (hu : X.A.units + 64 < cLine) (ha : ED X a σ H (.int i)) (hb : ED X b σ H (.int j)) : ET X (.Compare a [.Eq] [b] pos) σ H (decide (i = j)) := (et_eq hu ha hb shI shI).to eqI
theorem et_neI (hu : X.A.units + 64 < cLine) (ha : ED X a σ H (.int i)) (hb : ED X b σ H (.int j)) : ET X (.Compare a [.NotEq] [b] pos) σ H (!decide (i = j)) := (et_ne hu ha hb shI shI).to (by rw [eqI])
theorem ed_eqI (hu : X.A.units + 64 < cLine) (ha : ED X a σ H (.int i)) (hb : ED X b σ H (.int j)) : ED X (.Compare a [.Eq] [b] pos) σ H (.bool (decide (i = j))) := (ed_eq hu ha hb shI shI).to (by rw [eqI])
/-- two lists of data compared -/
theorem et_eqL (hu : X.A.units + 64 < cLine) (ha : ER X a σ H ds) (hb : ER X b σ H es) (h1 : SeqAt.shaped (.list ds) = true) (h2 : SeqAt.shaped (.list es) = true) : ET X (.Compare a [.Eq] [b] pos) σ H (PyData.eqv (.list ds) (.list es)) := fun H1 s1 Q q =>
  RT.of (pt_cmpR (op_eqD hu) re_pe re_pe (nomark _)) (ha H1 s1 _ fun x H2 s2 ⟨l, xs, e1, g1, g2⟩ => hb H2 (s1.trans s2) _ fun y H3 s3 ⟨m, ys, e2, k1, k2⟩ =>
    ⟨.list ds, .list es, by rw [e1]; exact .lst (SqL.of (s3 _ _ g1)) (ImAll.dp _ _ (g2.mono (Tk.of s3))), by rw [e2]; exact .lst (SqL.of k1) (ImAll.dp _ _ k2), h1, h2, _, rfl, q H3 (s2.trans s3)⟩)
/-- a <= b <= c of ints -/
theorem et_chain {op op' : CmpOp} {g g' : Int → Int → Bool} {k : Int} (ho : OpR X (compareOp op) (rI0 fun i j => .bl (g i j))) (ho' : OpR X (compareOp op') (rI0 fun i j => .bl (g' i j))) (ha : ED X a σ H (.int i)) (hb : ED X b σ H (.int j)) (hc : ED X c σ H (.int k))
    (hm : lastMarks [op, op'] [b, c] = false) : ET X (.Compare a [op, op'] [b, c] pos) σ H (g i j && g' j k) := fun H1 s1 Q q =>
  RT.of (pt_chain ho ho' re_pe re_pe re_pe hm) (ha H1 s1 _ fun x H2 s2 hx => hb H2 (s1.trans s2) _ fun y H3 s3 hy => ⟨i, j, Im.ofInt hx, Im.ofInt hy, _, rfl, by
    cases e : g i j with
    | true =>
      refine iteT (hc H3 ((s1.trans s2).trans s3) _ fun z H4 s4 hz => ⟨j, k, Im.ofInt hy, Im.ofInt hz, _, rfl, ?_⟩)
      have q2 := q H4 ((s2.trans s3).trans s4)
      rw [e, Bool.true_and] at q2
      exact q2
    | false =>
      refine iteF ⟨_, rfl, ?_⟩
      have q2 := q H3 (s2.trans s3)
      rw [e, Bool.false_and] at q2
      exact q2⟩)
theorem et_leLe {k : Int} (ha : ED X a σ H (.int i)) (hb : ED X b σ H (.int j)) (hc : ED X c σ H (.int k)) (hm : lastMarks [.LtE, .LtE] [b, c] = false := by with_unfolding_all rfl) : ET X (.Compare a [.LtE, .LtE] [b, c] pos) σ H (decide (i ≤ j) && decide (j ≤ k)) := et_chain op_le op_le ha hb hc hm
theorem et_leLt {k : Int} (ha : ED X a σ H (.int i)) (hb : ED X b σ H (.int j)) (hc : ED X c σ H (.int k)) (hm : lastMarks [.LtE, .Lt] [b, c] = false := by with_unfolding_all rfl) : ET X (.Compare a [.LtE, .Lt] [b, c] pos) σ H (decide (i ≤ j) && decide (j < k)) := et_chain op_le op_lt ha hb hc hm
theorem et_not {b : Bool} (h : ET X a σ H b) : ET X (.UnaryOp .Not a pos) σ H (!b) := fun H1 s1 Q q => RT.of (pt_not rt_pt) (h H1 s1 _ fun H2 s2 => q H2 s2)
/-- a value that is a truth -/
theorem et_val {b : Bool} (h : ED X e σ H (.bool b)) (he : ∀ whole, isTrue e X.env whole = (do let v ← whole; standAt e.pos; holding [v] (truthy v)) := by intro _; rfl) : ET X e σ H b := fun H1 s1 Q q =>
  RT.of (pt_val re_pe he) (h H1 s1 _ fun v H2 s2 hv => ⟨b, Im.ofBool hv, q H2 s2⟩)
theorem ew_et {b : Bool} (h : EW X e σ H b) : ET X e σ H b := fun H1 s1 Q q => RT.of (PW.pt rw_pw) (h H1 s1 Q q)
theorem ew_or1 {b : Bool} (h : ET X a σ H b) : EW X (.BoolOp .Or [a] pos) σ H b := fun H1 s1 Q q => RW.of (pw_or1 rt_pt) (h H1 s1 Q q)
theorem ew_and1 {b : Bool} (h : ET X a σ H b) : EW X (.BoolOp .And [a] pos) σ H b := fun H1 s1 Q q => RW.of (pw_and1 rt_pt) (h H1 s1 Q q)
theorem ew_or {rest : List Expr} {k m : Bool} (ha : ET X a σ H k) (hb : k = false → EW X (.BoolOp .Or (b :: rest) pos) σ H m) : EW X (.BoolOp .Or (a :: b :: rest) pos) σ H (k || m) := fun H1 s1 Q q => RW.of (pw_or rt_pt rw_pw) (ha H1 s1 _ fun H2 s2 => by
  cases k with
  | true => exact iteT (q H2 s2)
  | false => exact iteF (hb rfl H2 (s1.trans s2) Q fun H3 s3 => q H3 (s2.trans s3)))
theorem ew_and {rest : List Expr} {k m : Bool} (ha : ET X a σ H k) (hb : k = true → EW X (.BoolOp .And (b :: rest) pos) σ H m) : EW X (.BoolOp .And (a :: b :: rest) pos) σ H (k && m) := fun H1 s1 Q q => RW.of (pw_and rt_pt rw_pw) (ha H1 s1 _ fun H2 s2 => by
  cases k with
  | false => exact iteF (q H2 s2)
  | true => exact iteT (hb rfl H2 (s1.trans s2) Q fun H3 s3 => q H3 (s2.trans s3)))
theorem et_or {k m : Bool} (ha : ET X a σ H k) (hb : k = false → ET X b σ H m) : ET X (.BoolOp .Or [a, b] pos) σ H (k || m) := ew_et (ew_or ha fun z => ew_or1 (hb z))
theorem et_and {k m : Bool} (ha : ET X a σ H k) (hb : k = true → ET X b σ H m) : ET X (.BoolOp .And [a, b] pos) σ H (k && m) := ew_et (ew_and ha fun z => ew_and1 (hb z))
/-- a if c else b -/
theorem ev_if {k : Bool} (hc : ET X c σ H k) (ha : k = true → EV X a σ H R) (hb : k = false → EV X b σ H R) (st : Stable R) : EV X (.IfExp c a b pos) σ H R :=
  ev_pe (pe_ifExp rt_pt re_pe re_pe) fun H1 s1 Q q => hc H1 s1 _ fun H2 s2 => by
    cases k with
    | true => exact iteT (ha rfl H2 (s1.trans s2) Q fun v H3 s3 r => q v H3 (s2.trans s3) (st _ _ _ _ _ s2 (Same.refl _) r))
    | false => exact iteF (hb rfl H2 (s1.trans s2) Q fun v H3 s3 r => q v H3 (s2.trans s3) (st _ _ _ _ _ s2 (Same.refl _) r))
theorem ed_if {k : Bool} {d1 d2 : PyData} (hc : ET X c σ H k) (ha : k = true → ED X a σ H d1) (hb : k = false → ED X b σ H d2) : ED X (.IfExp c a b pos) σ H (if k = true then d1 else d2) :=
  ev_if hc (fun z => by rw [if_pos z]; exact ha z) (fun z => by rw [z, if_neg Bool.false_ne_true]; exact hb z) st_D
theorem ed_ifI {k : Bool} {i1 i2 : Int} (hc : ET X c σ H k) (ha : k = true → ED X a σ H (.int i1)) (hb : k = false → ED X b σ H (.int i2)) : ED X (.IfExp c a b pos) σ H (.int (if k = true then i1 else i2)) :=
  (ed_if hc ha hb).to (by cases k <;> rfl)
/-- is None -/
theorem et_isN {j : Nat} (ha : ED X a σ H d) : ET X (.Compare a [.Is] [.Constant .none j p] pos) σ H (match d with | .none => true | _ => false) := fun H1 s1 Q q =>
  RT.of (pt_cmp (pc_isN re_pe)) (ha H1 s1 _ fun x H2 s2 hx => ⟨_, rfl, by
    have q2 := q H2 s2
    have hx : Im H2 d x := hx
    cases d with
    | none => rw [hx.ofNone]; exact q2
    | bool b => rw [hx.ofBool]; exact q2
    | int b => rw [hx.ofInt]; exact q2
    | str b => rw [hx.ofStr]; exact q2
    | tuple b => obtain ⟨_, _, e, _⟩ := hx.ofTup; rw [e]; exact q2
    | list _ => simp [Im] at hx
    | dict _ => simp [Im] at hx⟩)
end
end Dw
/-! Dw: built-ins, methods, slices -/
namespace Dw
open PySem PySem.Spec PyProof.Rows L2
def lmin : List Int → Int
  | [] => 0
  | [x] => x
  | x :: xs => min x (lmin xs)
theorem lmin_mem : ∀ {xs : List Int}, 0 < xs.length → lmin xs ∈ xs
  | [], h => absurd h (by simp)
  | [x], _ => by simp [lmin]
  | x :: y :: r, _ => by
    have ih := lmin_mem (xs := y :: r) (by simp)
    show min x (lmin (y :: r)) ∈ x :: y :: r
    by_cases h : x ≤ lmin (y :: r)
    · rw [Int.min_eq_left h]
      exact List.mem_cons_self
    · rw [Int.min_eq_right (by omega)]
      exact List.mem_cons_of_mem _ ih
theorem lmin_le : ∀ {xs : List Int} {y : Int}, y ∈ xs → lmin xs ≤ y
  | [], _, h => by simp at h
  | [x], y, h => by simp at h; simp [lmin, h]
  | x :: z :: r, y, h => by
    show min x (lmin (z :: r)) ≤ y
    rcases List.mem_cons.mp h with e | h
    · rw [e]
      exact Int.min_le_left _ _
    · exact Int.le_trans (Int.min_le_right _ _) (lmin_le h)
theorem lmin_uniq {xs : List Int} {m : Int} (h : m ∈ xs) (k : ∀ y, y ∈ xs → m ≤ y) : m = lmin xs :=
  Int.le_antisymm (k _ (lmin_mem (by cases xs with | nil => simp at h | cons _ _ => simp))) (lmin_le h)
section
variable {X : Cx} {B H H' : Hp} {σ : L2.St} {Γ : List Sl} {a b c e : Expr} {pos p p2 apos cpos : Pos} {d : PyData} {ds : List PyData} {i j : Int} {x y z : Str} {R S : VR} {es : List Expr} {Rs : List VR} {id T : String}
theorem ev_callB {r : List V → Hp → VK → Prop} (hc : CallR X (.builtin id) r) (hg : Gl X x) (hm : X.mg x = none) (hv : bootBuiltins x = some (.builtin id)) (ha : EA X (e :: es) σ H Rs ∧ ∀ R ∈ Rs, Stable R)
    (hr : ∀ H1 H2 vs Q, Paired (fun (R : VR) v => R H1 H2 v) Rs vs → (∀ v H3, Same H2 H3 → R H2 H3 v → Q v H3) → r vs H2 Q) (st : Stable R) (hst : starEach (e :: es) X.env = (false, eval e X.env) :: starEach es X.env) (hpl : (backTo pos (starEach es X.env)).any (·.1) = false := by rfl) (hn : x ≠ "__name__" := by decide) (hdb : (x == ("__debug__" : Str)) = false := by decide) : EV X (.Call (.Name x p) (e :: es) [] pos) σ H R :=
  ev_pe (pe_callB hc hg hm hv ra_pa hn hdb hst hpl) fun H1 s1 Q q => ha.1 H1 s1 _ fun vs H2 s2 k => hr H1 H2 vs Q k fun v H3 s3 rv => q v H3 (s2.trans s3) (st _ _ _ _ _ s2 (Same.refl _) rv)
theorem ev_callT {r : List V → Hp → VK → Prop} (hc : CallR X (.type T) r) (hg : Gl X x) (hm : X.mg x = none) (hv : bootBuiltins x = some (.type T)) (ha : EA X (e :: es) σ H Rs ∧ ∀ R ∈ Rs, Stable R)
    (hr : ∀ H1 H2 vs Q, Paired (fun (R : VR) v => R H1 H2 v) Rs vs → (∀ v H3, Same H2 H3 → R H2 H3 v → Q v H3) → r vs H2 Q) (st : Stable R) (hst : starEach (e :: es) X.env = (false, eval e X.env) :: starEach es X.env) (hpl : (backTo pos (starEach es X.env)).any (·.1) = false := by rfl) (hn : x ≠ "__name__" := by decide) (hdb : (x == ("__debug__" : Str)) = false := by decide) : EV X (.Call (.Name x p) (e :: es) [] pos) σ H R :=
  ev_pe (pe_callTy hc hg hm hv ra_pa hn hdb hst hpl) fun H1 s1 Q q => ha.1 H1 s1 _ fun vs H2 s2 k => hr H1 H2 vs Q k fun v H3 s3 rv => q v H3 (s2.trans s3) (st _ _ _ _ _ s2 (Same.refl _) rv)
theorem pd1 {vs : List V} (h : Paired (fun (R : VR) v => R H H' v) [R] vs) : ∃ v, vs = [v] ∧ R H H' v := by
  cases h with
  | cons h t =>
    cases t
    exact ⟨_, rfl, h⟩
theorem pd2 {vs : List V} (h : Paired (fun (R : VR) v => R H H' v) [R, S] vs) : ∃ v u, vs = [v, u] ∧ R H H' v ∧ S H H' u := by
  cases h with
  | cons h t =>
    obtain ⟨u, e, q⟩ := pd1 t
    rw [e]
    exact ⟨_, u, rfl, h, q⟩
variable (hg : Gl X x) (hm : X.mg x = none)
theorem ed_lenS (hg : Gl X "len") (hm : X.mg "len" = none) (ha : ED X e σ H (.str z)) (hz : z.length ≤ sizeLine) (hst : starEach [e] X.env = (false, eval e X.env) :: starEach [] X.env := by rfl) : ED X (.Call (.Name "len" p) [e] [] pos) σ H (.int z.length) :=
  ev_callB call_len_str hg hm PySem.boot_len (ea_d ha ea_0 hst) (fun H1 H2 vs Q k q => by
    obtain ⟨v, rfl, hv⟩ := pd1 k
    exact ⟨z, by rw [Im.ofStr hv], hz, q _ H2 (Same.refl _) (im_int _)⟩) st_D hst
theorem ed_lenT (hg : Gl X "len") (hm : X.mg "len" = none) (ha : ED X e σ H (.tuple ds)) (hst : starEach [e] X.env = (false, eval e X.env) :: starEach [] X.env := by rfl) : ED X (.Call (.Name "len" p) [e] [] pos) σ H (.int ds.length) :=
  ev_callB call_len_seq hg hm PySem.boot_len (ea_d ha ea_0 hst) (fun H1 H2 vs Q k q => by
    obtain ⟨v, rfl, hv⟩ := pd1 k
    obtain ⟨l, xs, rfl, h1, h2⟩ := Im.ofTup hv
    exact ⟨l, xs, rfl, Or.inr (SqT.of h1), by rw [h2.length]; exact q _ H2 (Same.refl _) (im_int _)⟩) st_D hst
theorem ed_lenL (hg : Gl X "len") (hm : X.mg "len" = none) (ha : ER X e σ H ds) (hst : starEach [e] X.env = (false, eval e X.env) :: starEach [] X.env := by rfl) : ED X (.Call (.Name "len" p) [e] [] pos) σ H (.int ds.length) :=
  ev_callB call_len_seq hg hm PySem.boot_len (ea_r ha ea_0 hst) (fun H1 H2 vs Q k q => by
    obtain ⟨v, rfl, l, xs, rfl, h1, h2⟩ := pd1 k
    exact ⟨l, xs, rfl, Or.inl (SqL.of h1), by rw [h2.length]; exact q _ H2 (Same.refl _) (im_int _)⟩) st_D hst
theorem min_as {i j : Int} : (if j < i then j else i) = min i j := by
  rw [Int.min_def]
  split <;> split <;> omega
theorem max_as {i j : Int} : (if j > i then j else i) = max i j := by
  rw [Int.max_def]
  split <;> split <;> omega
theorem ed_min2 (hc : X.calm = true) (hg : Gl X "min") (hm : X.mg "min" = none) (ha : ED X a σ H (.int i)) (hb : ED X b σ H (.int j)) (h1 : starEach [a, b] X.env = (false, eval a X.env) :: starEach [b] X.env := by rfl) (h2 : starEach [b] X.env = (false, eval b X.env) :: starEach [] X.env := by rfl) : ED X (.Call (.Name "min" p) [a, b] [] pos) σ H (.int (min i j)) :=
  ev_callB (call_min2 hc) hg hm boot_min (ea_d ha (ea_d hb ea_0 h2) h1) (fun H1 H2 vs Q k q => by
    obtain ⟨v, u, rfl, hv, hu⟩ := pd2 k
    refine ⟨i, j, by rw [Im.ofInt hv, Im.ofInt hu], ?_⟩
    rw [min_as]
    exact q _ H2 (Same.refl _) (im_int _)) st_D h1 (by rw [h2]; rfl)
theorem ed_max2 (hc : X.calm = true) (hg : Gl X "max") (hm : X.mg "max" = none) (ha : ED X a σ H (.int i)) (hb : ED X b σ H (.int j)) (h1 : starEach [a, b] X.env = (false, eval a X.env) :: starEach [b] X.env := by rfl) (h2 : starEach [b] X.env = (false, eval b X.env) :: starEach [] X.env := by rfl) : ED X (.Call (.Name "max" p) [a, b] [] pos) σ H (.int (max i j)) :=
  ev_callB (call_max2 hc) hg hm boot_max (ea_d ha (ea_d hb ea_0 h2) h1) (fun H1 H2 vs Q k q => by
    obtain ⟨v, u, rfl, hv, hu⟩ := pd2 k
    refine ⟨i, j, by rw [Im.ofInt hv, Im.ofInt hu], ?_⟩
    rw [max_as]
    exact q _ H2 (Same.refl _) (im_int _)) st_D h1 (by rw [h2]; rfl)
theorem ed_minL {ns : List Int} (hc : X.calm = true) (hg : Gl X "min") (hm : X.mg "min" = none) (ha : ER X e σ H (ns.map PyData.int)) (hn : 0 < ns.length) (hst : starEach [e] X.env = (false, eval e X.env) :: starEach [] X.env := by rfl) : ED X (.Call (.Name "min" p) [e] [] pos) σ H (.int (lmin ns)) :=
  ev_callB (cr_min hc) hg hm boot_min (ea_r ha ea_0 hst) (fun H1 H2 vs Q k q => by
    obtain ⟨v, rfl, l, xs, rfl, h1, h2⟩ := pd1 k
    refine ⟨l, ns, rfl, by rw [← h2.ints]; exact SqL.of h1, hn, fun m h3 h4 => ?_⟩
    rw [lmin_uniq h3 h4]
    exact q _ H2 (Same.refl _) (im_int _)) st_D hst
theorem ed_sum {ns : List Int} (hc : X.calm = true) (hg : Gl X "sum") (hm : X.mg "sum" = none) (ha : ER X e σ H (ns.map PyData.int)) (hst : starEach [e] X.env = (false, eval e X.env) :: starEach [] X.env := by rfl) : ED X (.Call (.Name "sum" p) [e] [] pos) σ H (.int ns.sum) :=
  ev_callB (cr_sum hc) hg hm boot_sum (ea_r ha ea_0 hst) (fun H1 H2 vs Q k q => by
    obtain ⟨v, rfl, l, xs, rfl, h1, h2⟩ := pd1 k
    exact ⟨l, ns, rfl, by rw [← h2.ints]; exact SqL.of h1, q _ H2 (Same.refl _) (im_int _)⟩) st_D hst
/-- tuple(a list) -/
theorem ed_tupleL (hg : Gl X "tuple") (hm : X.mg "tuple" = none) (ha : ER X e σ H ds) (hst : starEach [e] X.env = (false, eval e X.env) :: starEach [] X.env := by rfl) : ED X (.Call (.Name "tuple" p) [e] [] pos) σ H (.tuple ds) :=
  ev_callT call_tuple_of hg hm PyProof.Rows.boot_tuple (ea_r ha ea_0 hst) (fun H1 H2 vs Q k q => by
    obtain ⟨v, rfl, l, xs, rfl, h1, h2⟩ := pd1 k
    exact ⟨l, xs, rfl, Or.inl ⟨SqL.of h1, fun m hm => q _ _ (Same.new hm) (im_tup upd_same (h2.mono (Tk.of (Same.new hm))))⟩⟩) st_D hst
/-- list(a tuple), list(a list) -/
theorem en_listT (hg : Gl X "list") (hm : X.mg "list" = none) (ha : ED X e σ H (.tuple ds)) (hst : starEach [e] X.env = (false, eval e X.env) :: starEach [] X.env := by rfl) : EN X (.Call (.Name "list" p) [e] [] pos) σ H ds :=
  ev_callT call_list_of hg hm PyProof.Rows.boot_list (ea_d ha ea_0 hst) (fun H1 H2 vs Q k q => by
    obtain ⟨v, rfl, hv⟩ := pd1 k
    obtain ⟨l, xs, rfl, h1, h2⟩ := Im.ofTup hv
    exact ⟨l, xs, rfl, Or.inr (SqT.of h1), fun m hm => q _ _ (Same.new hm) ⟨m, xs, rfl, hm, upd_same, h2.mono (Tk.of (Same.new hm))⟩⟩) st_N hst
theorem en_listL (hg : Gl X "list") (hm : X.mg "list" = none) (ha : ER X e σ H ds) (hst : starEach [e] X.env = (false, eval e X.env) :: starEach [] X.env := by rfl) : EN X (.Call (.Name "list" p) [e] [] pos) σ H ds :=
  ev_callT call_list_of hg hm PyProof.Rows.boot_list (ea_r ha ea_0 hst) (fun H1 H2 vs Q k q => by
    obtain ⟨v, rfl, l, xs, rfl, h1, h2⟩ := pd1 k
    exact ⟨l, xs, rfl, Or.inl (SqL.of h1), fun m hm => q _ _ (Same.new hm) ⟨m, xs, rfl, hm, upd_same, h2.mono (Tk.of (Same.new hm))⟩⟩) st_N hst
theorem ed_intB {k : Bool} (hg : Gl X "int") (hm : X.mg "int" = none) (ha : ED X e σ H (.bool k)) (hst : starEach [e] X.env = (false, eval e X.env) :: starEach [] X.env := by rfl) : ED X (.Call (.Name "int" p) [e] [] pos) σ H (.int (if k then 1 else 0)) :=
  ev_callT call_int1 hg hm PyProof.Rows.boot_int (ea_d ha ea_0 hst) (fun H1 H2 vs Q k' q => by
    obtain ⟨v, rfl, hv⟩ := pd1 k'
    exact Or.inr ⟨k, by rw [Im.ofBool hv], q _ H2 (Same.refl _) (im_int _)⟩) st_D hst
theorem ed_strI (hg : Gl X "str") (hm : X.mg "str" = none) (ha : ED X e σ H (.int i)) (hi : i.natAbs.log2 < 1920) (hst : starEach [e] X.env = (false, eval e X.env) :: starEach [] X.env := by rfl) : ED X (.Call (.Name "str" p) [e] [] pos) σ H (.str (toString i : String)) :=
  ev_callT call_str_int hg hm PyProof.Rows.boot_str (ea_d ha ea_0 hst) (fun H1 H2 vs Q k q => by
    obtain ⟨v, rfl, hv⟩ := pd1 k
    exact ⟨i, by rw [Im.ofInt hv], hi, q _ H2 (Same.refl _) (im_str _)⟩) st_D hst
/-- sep.join(a list of texts) -/
theorem ed_join {ys : List Str} (ha : ED X a σ H (.str z)) (hb : ER X b σ H (ys.map PyData.str)) (hz : (ys.map (·.length)).sum + ys.length * z.length ≤ 16777216)
    (hs : starEach [b] X.env = [(false, eval b X.env)] := by rfl) (hbase : attributeBase a "join" X.env (eval a X.env) = eval a X.env := by rfl) (hline : (apos.endLine == pos.line) = true := by rfl) : ED X (.Call (.Attribute a "join" apos) [b] [] pos) σ H (.str (Txt.join z ys)) :=
  ev_pe (pe_join re_pe re_pe hs hbase hline) fun H1 s1 Q q => ha H1 s1 _ fun u H2 s2 hu => ⟨⟨z, Im.ofStr hu⟩, hb H2 (s1.trans s2) _ fun v H3 s3 ⟨l, vs, e1, h1, h2⟩ =>
    ⟨z, l, ys, Im.ofStr hu, by rw [e1], Or.inl (by rw [← h2.strs]; exact SqL.of h1), hz, q _ H3 (s2.trans s3) (im_str _)⟩⟩
/-- slices -/
def EO (X : Cx) (o : Option Expr) (σ : L2.St) (H : Hp) (i : Option Int) : Prop := match o, i with
  | none, none => True
  | some e, some i => ED X e σ H (.int i)
  | _, _ => False
def RO (X : Cx) : Option Expr → TO
  | none => tNoPart
  | some e => tPart (RE X e)
theorem ro_po : ∀ o : Option Expr, PO X o (RO X o)
  | none => po_none
  | some e => po_some re_pe
theorem EO.run {o : Option Expr} {k : Option Int} (h : EO X o σ H k) : ∀ H1, Same H H1 → ∀ Q : Option Int → Hp → Prop, (∀ H2, Same H1 H2 → Q k H2) → RO X o σ H1 Q := fun H1 s1 Q q => by
  cases o with
  | none =>
    cases k with
    | none => exact q H1 (Same.refl _)
    | some i => exact h.elim
  | some e =>
    cases k with
    | none => exact h.elim
    | some i =>
      have h : ED X e σ H (.int i) := h
      exact h H1 s1 _ fun v H2 s2 hv => ⟨i, Im.ofInt hv, q H2 s2⟩
theorem ed_slS {lo hi : Option Expr} {l u : Option Int} (ha : ED X a σ H (.str z)) (hl : EO X lo σ H l) (hu : EO X hi σ H u) (hz : z.length ≤ sizeLine) : ED X (.Subscript a (.Slice lo hi none p2) pos) σ H (.str (cutS z l u)) :=
  ev_pe (pe_slice sl_str re_pe (ro_po lo) (ro_po hi)) fun H1 s1 Q q => ha H1 s1 _ fun v H2 s2 hv => hl.run H2 (s1.trans s2) _ fun H3 s3 => hu.run H3 ((s1.trans s2).trans s3) _ fun H4 s4 => ⟨z, Im.ofStr hv, hz, q _ H4 ((s2.trans s3).trans s4) (im_str _)⟩
def cutD (ds : List PyData) (lo hi : Option Int) : List PyData := (ds.drop (HT.sIx ds.length 0 lo)).take (HT.sIx ds.length ds.length hi - HT.sIx ds.length 0 lo)
theorem ev_slL {lo hi : Option Expr} {l u : Option Int} (ha : ER X a σ H ds) (hl : EO X lo σ H l) (hu : EO X hi σ H u) : EN X (.Subscript a (.Slice lo hi none p2) pos) σ H (cutD ds l u) :=
  ev_pe (pe_slice sl_list re_pe (ro_po lo) (ro_po hi)) fun H1 s1 Q q => ha H1 s1 _ fun v H2 s2 ⟨m, vs, e1, h1, h2⟩ => hl.run H2 (s1.trans s2) _ fun H3 s3 => hu.run H3 ((s1.trans s2).trans s3) _ fun H4 s4 =>
    ⟨m, vs, e1, SqL.of ((s3.trans s4) _ _ h1), fun p hp => q _ _ (((s2.trans s3).trans s4).trans (Same.new hp)) ⟨p, _, rfl, ((s2.trans s3).trans s4).free hp, upd_same, by
      have hl := h2.length
      show ImAll _ (cutD ds l u) (cutV vs l u)
      unfold cutD cutV
      rw [hl]
      exact ((h2.drop _).take _).mono (Tk.of ((s3.trans s4).trans (Same.new hp)))⟩⟩
/-- one sign in a text, and not -/
theorem et_notInS {n : Nat} (ha : ED X a σ H (.str ⟨#[n]⟩)) (hb : ED X b σ H (.str z)) (hm : behindInMarks .NotIn b = false := by with_unfolding_all rfl) : ET X (.Compare a [.NotIn] [b] pos) σ H (!decide (n ∈ z.cps.toList)) := fun H1 s1 Q q =>
  RT.of (pt_cmpR op_notIn_sign re_pe re_pe hm) (ha H1 s1 _ fun u H2 s2 hx => hb H2 (s1.trans s2) _ fun v H3 s3 hy => ⟨n, z, Im.ofStr hx, Im.ofStr hy, _, rfl, q H3 (s2.trans s3)⟩)
/-- z.index(y), found -/
theorem ed_index {k : Nat} (hc : X.calm = true) (ha : ED X a σ H (.str z)) (hb : ED X b σ H (.str y)) (hk : Txt.index0 z y = some k) (hbase : attributeBase a "index" X.env (eval a X.env) = eval a X.env := by rfl)
    (hfew : ((backTo cpos (starEach [b] X.env)).all (fun x => !x.1) && (backToKw cpos (keywordEach [] X.env)).all (fun x => x.1.isSome) && decide ([b].length + ([] : List Keyword).length + (if ([] : List Keyword).isEmpty then 0 else 1) < 30)) = true := by rfl)
    (hline : (apos.endLine == cpos.line) = true := by rfl) (hs : starEach [b] X.env = (false, eval b X.env) :: starEach [] X.env := by rfl) (hplain : (backTo cpos (starEach [] X.env)).any (·.1) = false := by rfl) : ED X (.Call (.Attribute a "index" apos) [b] [] cpos) σ H (.int k) :=
  ev_pe (pe_bmS PySem.F.plainAttrs_str PySem.F.slot_str_index PySem.F.type_str_index (mt_indexX hc takes0) re_pe ra_pa hbase hfew hline hs hplain) fun H1 s1 Q q => ha H1 s1 _ fun u H2 s2 hu => by
    refine ⟨by rw [Im.ofStr hu]; rfl, (ea_d hb ea_0 hs).1 H2 (s1.trans s2) _ fun vs H3 s3 hvs => ?_⟩
    obtain ⟨v, rfl, hv⟩ := pd1 hvs
    refine ⟨z, y, Im.ofStr hu, by rw [Im.ofStr hv], fun k' e => ?_, fun e => ?_⟩
    · rw [hk] at e
      cases e
      exact q _ H3 (s2.trans s3) (im_int _)
    · rw [hk] at e
      cases e
end
end Dw
/-! Dw: for i, x in enumerate(a tuple, a text) -/
namespace PySem
open AutoSeq1 (wpAny_loadPart')
/-- enumerate(v), v told by how its iterator begins -/
theorem dw_enum_new {v : Value} {o : Obj} {H : Heap → Prop} (B : Begins v o H) :
    Meets (Builtin.«enumerate.__new__» ⟨[.type "enumerate", v], []⟩) (fun _ R s => H s.heap ∧
      R (.ok (.ret (.ref (s.heap.push o).objs.size))) { s with heap := (s.heap.push o).push { cls := .type "enumerate", data := .fields #[.none, .bool false, .ref s.heap.objs.size, rawInt 0, .none, .none] } }) :=
  .of_wp fun prog w A R s h => by
    obtain ⟨hp, g, d, tk, os⟩ := s; obtain ⟨h1, h⟩ := h
    have hsub := sub_enumerate
    have q1 : ∀ {A' : Around} {E : Value → Shared → Prop} {Q : Value → Shared → Prop}, Q (.ref hp.objs.size) ⟨hp.push o, g, d, tk, os⟩ → wpAny (model prog w) A' (pyIter v) Q E ⟨hp, g, d, tk, os⟩ :=
      fun q => B.iter prog w _ _ ⟨hp, g, d, tk, os⟩ _ h1 q
    wp_walk using q1
    refine wpAny_stack_any fun st => wpAny_pure ?_
    split
    · rename_i c _ _ _ _ _
      cases (c == Value.type "enumerate")
      · wp_walk using q1
        exact ⟨_, rfl, h⟩
      · wp_walk using q1
        exact ⟨_, rfl, h⟩
    · wp_walk using q1
      exact ⟨_, rfl, h⟩
section
variable {prog : Program} {w : World} {A : Around} {E : Value → Shared → Prop} {s : Shared}
theorem dw_enum_begins {v : Value} {o : Obj} {H : Heap → Prop} {Q : Value → Shared → Prop} (B : Begins v o H) (h1 : H s.heap)
    (h : ∀ h', IsEnum h' (s.heap.objs.size + 1) s.heap.objs.size 0 .none → h'.get? s.heap.objs.size = some o → h'.objs.size = s.heap.objs.size + 2 →
      (∀ b o, s.heap.get? b = some o → h'.get? b = some o) → Q (.ref (s.heap.objs.size + 1)) { s with heap := h' }) :
    wpAny (model prog w) A (call (.type "enumerate") [v]) Q E s := by
  refine callType_new F.called_enumerate (by decide) (F.typeCall_enumerate_1 _) (F.newCall_enumerate_1 _) (fun obj => F.args_object_init_2 obj _) F.entry_enumerate_new
    (dw_enum_new B) ⟨h1, ?_⟩
  have hz : (s.heap.push o).objs.size = s.heap.objs.size + 1 := Heap.size_push ..
  show _ ∧ _
  rw [hz]
  have he : IsEnum ((s.heap.push o).push { cls := .type "enumerate", data := .fields #[.none, .bool false, .ref s.heap.objs.size, rawInt 0, .none, .none] }) (s.heap.objs.size + 1) s.heap.objs.size 0 .none := by
    have := Heap.get?_push_size (s.heap.push o) (o := { cls := .type "enumerate", data := .fields #[.none, .bool false, .ref s.heap.objs.size, rawInt 0, .none, .none] }) rfl
    rw [hz] at this; exact this
  refine ⟨⟨_, he, rfl⟩, h _ he (Heap.get?_push_of_some _ (Heap.get?_push_size _ B.free)) (by rw [Heap.size_push, hz]) fun b o x => Heap.get?_push_of_some _ (Heap.get?_push_of_some _ x)⟩
end
end PySem
namespace Dw
open PySem PySem.Spec PyProof.Rows L2
/-- the tuple at a, its items in new pairs with their numbers -/
def Itet (K : PySem.W.Frag) (a : Addr) : It :=
  ⟨fun i H => ∃ xs x, SqT K H a xs ∧ xs[i]? = some x, fun i H v H' => ∃ T x, v = .ref T ∧ H T = none ∧ H' = upd H T (.tup [.int (i : Nat), x]) ∧ ∀ xs, SqT K H a xs → xs[i]? = some x, fun i H => ∃ xs, SqT K H a xs ∧ xs.length ≤ i⟩
theorem turn_enumT {P : Program} {w : World} {K : PySem.W.Frag} {elts : List Expr} {kk : Nat} {tpos : Pos} (a e it : Addr) :
    Turn P w K (.Tuple elts kk tpos) (Itet K a) [e, it] e (fun i h => (∃ old, IsEnum h e it ((i : Nat) : Int) old) ∧ h.IsTupleIter it a i ∧ e ≠ it) where
  mem := by simp
  obj := fun i h st b hb => by
    obtain ⟨⟨old, he⟩, ⟨o, ho, hc, hd⟩, _⟩ := st
    have e' : b = e ∨ b = it := by simpa using hb
    rcases e' with z | z
    · rw [z]; exact ⟨_, he, fun v q => nomatch q⟩
    · rw [z]; exact ⟨o, ho, fun v q => by rw [hd] at q; cases q⟩
  keep := fun i h h' st k => let ⟨⟨old, he⟩, hi, hne⟩ := st; ⟨⟨old, k e (by simp) _ he⟩, hi.at fun o q => k it (by simp) o q, hne⟩
  item := by
    intro X hP hw hK hc i pins s σ H E I hf st hg
    subst hP hw hK
    obtain ⟨⟨old, he⟩, hit, hne⟩ := st
    obtain ⟨xs, x, hq, hx⟩ := hg
    obtain ⟨its, rv, p, hz⟩ := I.tuple hq
    obtain ⟨u, hu, ru⟩ := rv.get hx
    have hel : e < s.heap.objs.size := Heap.lt_size he
    have hil : it < s.heap.objs.size := by obtain ⟨_, q, _⟩ := hit; exact Heap.lt_size q
    have hae : e ≠ a := fun z => by
      obtain ⟨o, q, _, _, d⟩ := p
      rw [← z, he] at q
      cases q
      cases d
    have hai : a ≠ it := fun z => by
      obtain ⟨o, q, _, _, d⟩ := p
      obtain ⟨o', q', _, d'⟩ := hit
      rw [z, q'] at q
      cases q
      rw [d'] at d
      cases d
    have hil2 : i < its.toArray.size := by
      obtain ⟨q, _⟩ := List.getElem?_eq_some_iff.mp hu
      simpa using q
    refine wpAny_pyNext_enum_itemD (Draws.tuple (prog := X.prog) (w := X.w) (A := X.A.in1) (I.ok.hd hc) it a hai its.toArray) he ⟨hit, p⟩ hil2 hne (by simp [hne, hae]) fun x' h' tk hP ho hit' hT hsz hk => ?_
    have ex : x' = u := by
      have hP : its.toArray[i]? = some x' := hP
      have q : its[i]? = some x' := by simpa using hP
      rw [hu] at q
      exact (Option.some.inj q).symm
    subst ex
    refine ⟨_, rfl, wpAny_letOwnedTupleGo_enum (s := { s with heap := h', toks := tk + 1 }) ho fun h'' he' sb => ?_⟩
    have hT2 : h''.get? s.heap.objs.size = some { cls := .type "tuple", data := .seq #[.int i tk, x'] } := (sb.2 _ (Nat.ne_of_gt hel)).trans hT
    have new : ObjOk X.prog X.w (upd H s.heap.objs.size (.tup [.int (i : Nat), x])) h'' s.heap.objs.size (.tup [.int (i : Nat), x]) :=
      ⟨by show 2 ≤ sizeLine; decide, [.int i tk, x'], .cons ⟨_, rfl⟩ (.cons ru .nil), ⟨_, hT2, rfl, _, rfl⟩⟩
    have I1 : Inv X pins σ (upd H s.heap.objs.size (.tup [.int (i : Nat), x])) { s with heap := h'', toks := tk + 1 } :=
      I.turnedNew (ch := [e, it]) (fun b ob hb q => (sb.2 b (fun z => hb (by simp [z]))).trans (hk b ob (fun z => hb (by simp [z])) (fun z => hb (by simp [z])) q)) hf (Nat.le_refl _) new
    refine ⟨.ref s.heap.objs.size, _, I1, rfl, ⟨_, x, rfl, I.hok.fresh (Nat.le_refl _), rfl, fun ys hy => by rw [I.tuple_inj hy hq]; exact hx⟩, ⟨⟨x', ?_⟩, hit'.1.at fun o q => (sb.2 it (Ne.symm hne)).trans q, hne⟩, fun b hb => ?_⟩
    · have e1 : ((i + 1 : Nat) : Int) = (i : Int) + 1 := by omega
      rw [e1]; exact he'
    · have hb' : b < s.heap.objs.size := by
        have e' : b = e ∨ b = it := by simpa using hb
        rcases e' with z | z
        · rw [z]; exact hel
        · rw [z]; exact hil
      rw [upd_ne (Nat.ne_of_lt hb')]
      exact (hf b hb).1
  done := by
    intro X hP hw hK hc i pins s σ H E I hf st hg
    subst hP hw hK
    obtain ⟨⟨old, he⟩, hit, hne⟩ := st
    obtain ⟨xs, hq, hx⟩ := hg
    obtain ⟨its, rv, p, hz⟩ := I.tuple hq
    obtain ⟨f0, f1, f2, f3, f4, f5⟩ := hf it (by simp)
    have hl := rv.length
    have hT : s.TypeIs (.ref e) "enumerate" := ⟨_, he, rfl⟩
    unfold pyNext
    refine wpAny_bind (wpAny_attempt (wpAny_callSpecial?_slot (name := Str.ofString "__next__") hT F.slot_enumerate_next
      (wpAny_call_entry F.slot_enumerate_next hT F.entry_enumerate_next ?_ (F.args_enumerate_next_1 _))))
    show wpAny _ _ (field (.ref e) 2 >>= _) _ _ _
    refine wpAny_bind (wpAny_field he rfl (x := .ref it) rfl ?_)
    refine wpAny_bind (wpAny_nextOf_tuple_end (A := X.A.in1) (I.ok.hd hc) hit p (by simp; omega) fun h' x he' hx' => ?_)
    obtain ⟨o, ho, hcl⟩ := hx'
    refine wpAny_bind (wpAny_isInstance (T := "StopIteration") (b := true) ⟨o, ho, hcl⟩ isSubtype_stop ?_)
    exact wpAny_pure ⟨rfl, I.turned (t' := s.toks) (fun b o hb q => he' b o hb q) f0 f1 f3 f4 f5⟩
  self := fun A i s Q E st h => let ⟨⟨_, he⟩, _⟩ := st; wpAny_pyIter_enum he h
def iEnumT (K : PySem.W.Frag) (ta : TA) : TI := fun σ H R => ta σ H fun vs H1 => ∃ a xs, vs = [.ref a] ∧ SqT K H1 a xs ∧ R (Itet K a) H1
theorem pi_enumT {X : Cx} {e : Expr} {ta : TA} {p pos tpos : Pos} {elts : List Expr} {kk : Nat} (hg : Gl X "enumerate") (hm : X.mg "enumerate" = none) (ha : PA X [e] ta) (hs : starEach [e] X.env = [(false, eval e X.env)] := by rfl) :
    PI X (.Tuple elts kk tpos) (.Call (.Name "enumerate" p) [e] [] pos) (iEnumT X.K ta) := by
  refine ⟨fun pins s σ H R I h => ?_⟩
  refine Call_ (ld_blt I hg hm boot_enumerate (PyProof.Rows.callWith_type1 (thn (ha.run pos pins s σ H _ I h) fun us s1 ⟨vs, H1, I1, r1, q1⟩ => ?_) hs rfl))
  obtain ⟨a, xs, ex, hq, q⟩ := q1
  subst ex
  cases r1 with
  | cons r rr =>
    cases rr
    cases r
    obtain ⟨its, rv, p', hz⟩ := I1.tuple hq
    refine dw_enum_begins (begins_tuple a its.toArray) p' fun h' he hit hsz hk => wpAny_pyIter_enum he ?_
    have I2 : Inv X pins σ H1 { s1 with heap := h' } := I1.kept (t' := s1.toks) hk
    refine ⟨s1.heap.objs.size + 1, [s1.heap.objs.size + 1, s1.heap.objs.size], _, _, H1, rfl, I2, turn_enumT a (s1.heap.objs.size + 1) s1.heap.objs.size, ⟨⟨.none, he⟩, ⟨_, hit, rfl, rfl⟩, Nat.succ_ne_self _⟩, fun b hb => ?_, q⟩
    have e' : b = s1.heap.objs.size + 1 ∨ b = s1.heap.objs.size := by simpa using hb
    have hle : s1.heap.objs.size ≤ b := by
      rcases e' with z | z
      · rw [z]; exact Nat.le_add_right _ _
      · rw [z]; exact Nat.le_refl _
    exact I1.fpOk hle (I1.hok.fresh hle)
/-- a text's signs, in new pairs with their numbers -/
def Ites (z : Str) : It :=
  ⟨fun i _ => i < z.cps.size, fun i H v H' => ∃ T c, v = .ref T ∧ H T = none ∧ H' = upd H T (.tup [.int (i : Nat), .str ⟨#[c]⟩]) ∧ z.cps[i]? = some c, fun i _ => z.cps.size ≤ i⟩
theorem turn_enumS {P : Program} {w : World} {K : PySem.W.Frag} {elts : List Expr} {kk : Nat} {tpos : Pos} (e it : Addr) (z : Str) (t : Tok) :
    Turn P w K (.Tuple elts kk tpos) (Ites z) [e, it] e (fun i h => (∃ old, IsEnum h e it ((i : Nat) : Int) old) ∧ h.IsStrIter it (strIterType z) z t i ∧ e ≠ it ∧ i ≤ z.cps.size) where
  mem := by simp
  obj := fun i h st b hb => by
    obtain ⟨⟨old, he⟩, ⟨o, ho, hc, hd⟩, _⟩ := st
    have e' : b = e ∨ b = it := by simpa using hb
    rcases e' with z | z
    · rw [z]; exact ⟨_, he, fun v q => nomatch q⟩
    · rw [z]; exact ⟨o, ho, fun v q => by rw [hd] at q; cases q⟩
  keep := fun i h h' st k => let ⟨⟨old, he⟩, ⟨o, ho, r⟩, hne⟩ := st; ⟨⟨old, k e (by simp) _ he⟩, ⟨o, k it (by simp) o ho, r⟩, hne⟩
  item := by
    intro X hP hw hK hc i pins s σ H E I hf st hg
    subst hP hw hK
    obtain ⟨⟨old, he⟩, hit, hne, hle⟩ := st
    have hel : e < s.heap.objs.size := Heap.lt_size he
    have hil : it < s.heap.objs.size := by obtain ⟨_, q, _⟩ := hit; exact Heap.lt_size q
    refine wpAny_pyNext_enum_itemD (Draws.text (prog := X.prog) (w := X.w) (A := X.A.in1) (I.ok.hd hc) it z t) he hit hg hne (by simp [hne]) fun x' h' tk hP ho hit' hT hsz hk => ?_
    obtain ⟨c, tu, hcx, rfl⟩ := hP
    refine ⟨_, rfl, wpAny_letOwnedTupleGo_enum (s := { s with heap := h', toks := tk + 1 }) ho fun h'' he' sb => ?_⟩
    have hT2 : h''.get? s.heap.objs.size = some { cls := .type "tuple", data := .seq #[.int i tk, .str ⟨#[c]⟩ tu] } := (sb.2 _ (Nat.ne_of_gt hel)).trans hT
    have new : ObjOk X.prog X.w (upd H s.heap.objs.size (.tup [.int (i : Nat), .str ⟨#[c]⟩])) h'' s.heap.objs.size (.tup [.int (i : Nat), .str ⟨#[c]⟩]) :=
      ⟨by show 2 ≤ sizeLine; decide, [.int i tk, .str ⟨#[c]⟩ tu], .cons ⟨_, rfl⟩ (.cons ⟨_, rfl⟩ .nil), ⟨_, hT2, rfl, _, rfl⟩⟩
    have I1 : Inv X pins σ (upd H s.heap.objs.size (.tup [.int (i : Nat), .str ⟨#[c]⟩])) { s with heap := h'', toks := tk + 1 } :=
      I.turnedNew (ch := [e, it]) (fun b ob hb q => (sb.2 b (fun z => hb (by simp [z]))).trans (hk b ob (fun z => hb (by simp [z])) (fun z => hb (by simp [z])) q)) hf (Nat.le_refl _) new
    refine ⟨.ref s.heap.objs.size, _, I1, rfl, ⟨_, c, rfl, I.hok.fresh (Nat.le_refl _), rfl, hcx⟩, ⟨⟨.str ⟨#[c]⟩ tu, ?_⟩, ?_, hne, hg⟩, fun b hb => ?_⟩
    · have e1 : ((i + 1 : Nat) : Int) = (i : Int) + 1 := by omega
      rw [e1]; exact he'
    · obtain ⟨o, q1, q2, q3⟩ := hit'
      exact ⟨o, (sb.2 it (Ne.symm hne)).trans q1, q2, q3⟩
    · have hb' : b < s.heap.objs.size := by
        have e' : b = e ∨ b = it := by simpa using hb
        rcases e' with z | z
        · rw [z]; exact hel
        · rw [z]; exact hil
      rw [upd_ne (Nat.ne_of_lt hb')]
      exact (hf b hb).1
  done := by
    intro X hP hw hK hc i pins s σ H E I hf st hg
    subst hP hw hK
    obtain ⟨⟨old, he⟩, hit, hne, hle⟩ := st
    obtain ⟨f0, f1, f2, f3, f4, f5⟩ := hf it (by simp)
    have ei : i = z.cps.size := Nat.le_antisymm hle hg
    rw [ei] at hit
    exact wpAny_pyNext_enum_endD (Draws.text (prog := X.prog) (w := X.w) (A := X.A.in1) (I.ok.hd hc) it z t) he hit fun h' eb => ⟨rfl, I.turned (t' := s.toks) (fun b o hb q => eb b o hb q) f0 f1 f3 f4 f5⟩
  self := fun A i s Q E st h => let ⟨⟨_, he⟩, _⟩ := st; wpAny_pyIter_enum he h
def iEnumS (ta : TA) : TI := fun σ H R => ta σ H fun vs H1 => ∃ z, vs = [.str z] ∧ R (Ites z) H1
theorem pi_enumS {X : Cx} {e : Expr} {ta : TA} {p pos tpos : Pos} {elts : List Expr} {kk : Nat} (hg : Gl X "enumerate") (hm : X.mg "enumerate" = none) (ha : PA X [e] ta) (hs : starEach [e] X.env = [(false, eval e X.env)] := by rfl) :
    PI X (.Tuple elts kk tpos) (.Call (.Name "enumerate" p) [e] [] pos) (iEnumS ta) := by
  refine ⟨fun pins s σ H R I h => ?_⟩
  refine Call_ (ld_blt I hg hm boot_enumerate (PyProof.Rows.callWith_type1 (thn (ha.run pos pins s σ H _ I h) fun us s1 ⟨vs, H1, I1, r1, q1⟩ => ?_) hs rfl))
  obtain ⟨z, ex, q⟩ := q1
  subst ex
  cases r1 with
  | cons r rr =>
    cases rr
    obtain ⟨t, rfl⟩ := r
    refine dw_enum_begins (begins_text z t) trivial fun h' he hit hsz hk => wpAny_pyIter_enum he ?_
    have I2 : Inv X pins σ H1 { s1 with heap := h' } := I1.kept (t' := s1.toks) hk
    refine ⟨s1.heap.objs.size + 1, [s1.heap.objs.size + 1, s1.heap.objs.size], _, _, H1, rfl, I2, turn_enumS (s1.heap.objs.size + 1) s1.heap.objs.size z t, ⟨⟨.none, he⟩, ⟨_, hit, rfl, rfl⟩, Nat.succ_ne_self _, Nat.zero_le _⟩, fun b hb => ?_, q⟩
    have e' : b = s1.heap.objs.size + 1 ∨ b = s1.heap.objs.size := by simpa using hb
    have hle : s1.heap.objs.size ≤ b := by
      rcases e' with z | z
      · rw [z]; exact Nat.le_add_right _ _
      · rw [z]; exact Nat.le_refl _
    exact I1.fpOk hle (I1.hok.fresh hle)
/-! ### as walks -/
theorem walk_enumT {K : PySem.W.Frag} {a : Addr} {xs : List V} : Walk (Itet K a) xs.length (fun H => SqT K H a xs) (YPair (fun i => some (.int (i : Nat))) (fun i => xs[i]?)) := by
  refine ⟨fun i _ hi q => ⟨xs, xs[i], q, by simp [hi]⟩, fun _ q => ⟨xs, q, Nat.le_refl _⟩, fun i H v H' _ q y => ?_⟩
  obtain ⟨T, x, h1, h2, h3, h4⟩ := y
  exact ⟨T, .int (i : Nat), x, h1, h2, h3, rfl, h4 xs q⟩
theorem walk_enumS {z : Str} : Walk (Ites z) z.cps.size (fun _ => True) (YPair (fun i => some (.int (i : Nat))) (fun i => z.cps[i]?.map fun c => .str ⟨#[c]⟩)) := by
  refine ⟨fun i _ hi _ => hi, fun _ _ => Nat.le_refl _, fun i H v H' _ _ y => ?_⟩
  obtain ⟨T, c, h1, h2, h3, h4⟩ := y
  exact ⟨T, .int (i : Nat), .str ⟨#[c]⟩, h1, h2, h3, rfl, by show (z.cps[i]?).map _ = _; rw [h4]; rfl⟩
theorem walk_zipT {K : PySem.W.Frag} {a b : Addr} {xs ys : List V} {n : Nat} (hn : n = min xs.length ys.length) : Walk (RZ.ItzT K a b) n (fun H => SqT K H a xs ∧ SqT K H b ys) (YPair (fun i => xs[i]?) (fun i => ys[i]?)) := by
  subst hn
  refine ⟨fun i _ hi q => ?_, fun _ q => ⟨xs, ys, q.1, q.2, by omega⟩, fun i H v H' _ q y => ?_⟩
  · have h1 : i < xs.length := by omega
    have h2 : i < ys.length := by omega
    exact ⟨xs, ys, xs[i], ys[i], q.1, q.2, by simp [h1], by simp [h2]⟩
  · obtain ⟨T, x, z, h1, h2, h3, h4, h5⟩ := y
    exact ⟨T, x, z, h1, h2, h3, h4 xs q.1, h5 ys q.2⟩
end Dw
/-! Dw: statements, loops, comprehensions, defs -/
namespace Dw
open PySem PySem.Spec PyProof.Rows L2
/-! ### forgetting, a new base -/
def Wk (a b : Sl) : Prop := a = .un ∨ a = b
theorem Paired.getP {α β : Type} {F : α → β → Prop} : ∀ {xs : List α} {ys : List β} {i : Nat} {x : α}, Paired F xs ys → xs[i]? = some x → ∃ y, ys[i]? = some y ∧ F x y
  | _, _, _, _, .nil, e => by simp at e
  | _, _, 0, _, .cons h _, e => by simp at e; subst e; exact ⟨_, rfl, h⟩
  | _, _, i + 1, x, .cons _ t, e => by
    obtain ⟨y, q1, q2⟩ := Paired.getP (i := i) (x := x) t (by simpa using e)
    exact ⟨y, by simpa using q1, q2⟩
section
variable {B B' H H' : Hp} {σ : L2.St} {Γ Γ' : List Sl}
theorem Good.wk (G : Good B H σ Γ) (h : Paired Wk Γ' Γ := by repeat' (first | exact Paired.nil | refine Paired.cons (by first | exact Or.inl rfl | exact Or.inr rfl) ?_)) : Good B H σ Γ' :=
  G.weak (Paired.length h) fun i sl e => by
    obtain ⟨y, e1, q⟩ := Paired.getP h e
    rcases q with q | q
    · exact .inl q
    · exact .inr (by rw [q]; exact e1)
theorem Good.cast (G : Good B H σ Γ) (h : Γ = Γ') : Good B H σ Γ' := h ▸ G
/-- all that stands and is not the frame's own goes to the base -/
theorem Good.rebase (G : Good B H σ Γ) : ∃ B', Same B B' ∧ Good B' H σ Γ ∧ ∀ a o, H a = some o → (∀ (i : Nat) (sl : Sl), Γ[i]? = some sl → sl.own = true → σ[i]? ≠ some (some (.ref a))) → B' a = some o := by
  classical
  refine ⟨fun a => if (∃ (i : Nat) (sl : Sl), Γ[i]? = some sl ∧ sl.own = true ∧ σ[i]? = some (some (.ref a))) then none else H a, fun a o h => ?_, ⟨fun a o h => ?_, G.len, fun i sl o h1 h2 => ?_, G.apart⟩, fun a o h n => ?_⟩
  · have hn : ¬ ∃ (i : Nat) (sl : Sl), Γ[i]? = some sl ∧ sl.own = true ∧ σ[i]? = some (some (.ref a)) := fun ⟨i, sl, e1, e2, e3⟩ => by
      have q := (G.owned e1 e2 e3).1
      rw [h] at q
      cases q
    show (if _ then none else H a) = some o
    rw [if_neg hn]
    exact G.same _ _ h
  · by_cases c : ∃ (i : Nat) (sl : Sl), Γ[i]? = some sl ∧ sl.own = true ∧ σ[i]? = some (some (.ref a))
    · have h' : (if (∃ (i : Nat) (sl : Sl), Γ[i]? = some sl ∧ sl.own = true ∧ σ[i]? = some (some (.ref a))) then none else H a) = some o := h
      rw [if_pos c] at h'
      cases h'
    · have h' : (if (∃ (i : Nat) (sl : Sl), Γ[i]? = some sl ∧ sl.own = true ∧ σ[i]? = some (some (.ref a))) then none else H a) = some o := h
      rw [if_neg c] at h'
      exact h'
  · have q := G.at_ i sl o h1 h2
    cases sl with
    | un => trivial
    | dat d => exact q
    | lst ds =>
      obtain ⟨l, vs, e1, e2, e3, q⟩ := q
      exact ⟨l, vs, e1, if_pos ⟨i, _, h1, rfl, by rw [h2, e1]⟩, e3, q⟩
    | rls ds =>
      obtain ⟨l, vs, e1, e2, q⟩ := q
      have hn : ¬ ∃ (i : Nat) (sl : Sl), Γ[i]? = some sl ∧ sl.own = true ∧ σ[i]? = some (some (.ref l)) := fun ⟨j, sj, f1, f2, f3⟩ => by
        have z := (G.owned f1 f2 f3).1
        rw [e2] at z
        cases z
      refine ⟨l, vs, e1, ?_, ?_⟩
      · show (if _ then none else H l) = _
        rw [if_neg hn]
        exact G.same _ _ e2
      · refine q.mono fun a xs h => ?_
        have hn2 : ¬ ∃ (i : Nat) (sl : Sl), Γ[i]? = some sl ∧ sl.own = true ∧ σ[i]? = some (some (.ref a)) := fun ⟨j, sj, f1, f2, f3⟩ => by
          have z := (G.owned f1 f2 f3).1
          rw [h] at z
          cases z
        show (if _ then none else H a) = _
        rw [if_neg hn2]
        exact G.same _ _ h
    | dic kvs =>
      obtain ⟨l, kv, e1, e2, e3, q⟩ := q
      exact ⟨l, kv, e1, if_pos ⟨i, _, h1, rfl, by rw [h2, e1]⟩, e3, q⟩
    | raw v => exact q
  · show (if _ then none else H a) = some o
    rw [if_neg fun ⟨i, sl, e1, e2, e3⟩ => n i sl e1 e2 e3]
    exact h
/-- a tuple is never the frame's own; nor is what is newer than the slots -/
theorem Good.noTup {a : Addr} {xs : List V} (G : Good B H σ Γ) (h : H a = some (.tup xs)) : ∀ (i : Nat) (sl : Sl), Γ[i]? = some sl → sl.own = true → σ[i]? ≠ some (some (.ref a)) := fun i sl e1 e2 e3 => by
  have q := G.at_ i sl _ e1 e3
  cases sl with
  | lst ds => obtain ⟨l', vs, f1, f2, f3, _⟩ := q; cases f1; rw [h] at f3; cases f3
  | dic ds => obtain ⟨l', vs, f1, f2, f3, _⟩ := q; cases f1; rw [h] at f3; cases f3
  | un => cases e2
  | dat _ => cases e2
  | rls _ => cases e2
  | raw _ => cases e2
theorem Good.noNew {a : Addr} {H0 : Hp} (G : Good B H0 σ Γ) (h : H0 a = none) : ∀ (i : Nat) (sl : Sl), Γ[i]? = some sl → sl.own = true → σ[i]? ≠ some (some (.ref a)) := fun i sl e1 e2 e3 => by
  obtain ⟨_, u, hu⟩ := G.owned e1 e2 e3
  rw [h] at hu
  cases hu
/-- data of what stands is data of the new base -/
theorem Good.imBase {d : PyData} {v : V} (G : Good B H σ Γ) (hB : ∀ a o, H a = some o → (∀ (i : Nat) (sl : Sl), Γ[i]? = some sl → sl.own = true → σ[i]? ≠ some (some (.ref a))) → B' a = some o) (h : Im H d v) : Im B' d v :=
  h.mono fun a xs e => hB a _ e (G.noTup e)
theorem Good.imBaseAll {ds : List PyData} {vs : List V} (G : Good B H σ Γ) (hB : ∀ a o, H a = some o → (∀ (i : Nat) (sl : Sl), Γ[i]? = some sl → sl.own = true → σ[i]? ≠ some (some (.ref a))) → B' a = some o) (h : ImAll H ds vs) : ImAll B' ds vs :=
  h.mono fun a xs e => hB a _ e (G.noTup e)
/-- a comprehension's own names forgotten -/
def wipeG (Γ : List Sl) : List Nat → List Sl
  | [] => Γ
  | v :: vs => (wipeG Γ vs).set v .un
theorem Good.unset (G : Good B H σ Γ) (i : Nat) : Good B H (σ.set i none) (Γ.set i .un) := by
  refine ⟨G.same, by rw [List.length_set, List.length_set, G.len], fun j sj o h1 h2 => ?_, fun j k sj sk l hjk h1 h2 o1 o2 e1 e2 => ?_⟩
  · rcases get_set h1 with ⟨rfl, rfl, _⟩ | ⟨n1, h1⟩
    · trivial
    · exact G.at_ j sj o h1 ((get_set h2).elim (fun z => absurd z.1 n1) fun z => z.2)
  · have n1 : j ≠ i := fun z => by
      rcases get_set h1 with ⟨_, rfl, _⟩ | ⟨n, _⟩
      · cases o1
      · exact n z
    have n2 : k ≠ i := fun z => by
      rcases get_set h2 with ⟨_, rfl, _⟩ | ⟨n, _⟩
      · cases o2
      · exact n z
    exact G.apart j k sj sk l hjk ((get_set h1).elim (fun z => absurd z.1 n1) fun z => z.2) ((get_set h2).elim (fun z => absurd z.1 n2) fun z => z.2) o1 o2
      ((get_set e1).elim (fun z => absurd z.1 n1) fun z => z.2) ((get_set e2).elim (fun z => absurd z.1 n2) fun z => z.2)
theorem Good.wiped (G : Good B H σ Γ) : ∀ vs : List Nat, Good B H (wipe σ vs) (wipeG Γ vs)
  | [] => G
  | v :: vs => (Good.wiped G vs).unset v
end

/-! ### stores -/
/-- what a slot becomes by a value of that kind -/
def Sets (R : VR) (sl : Sl) : Prop := ∀ (B H H2 : Hp) (σ : L2.St) (Γ : List Sl) (i : Nat) (v : V), Good B H σ Γ → Same H H2 → R H H2 v → Good B H2 (σ.set i (some v)) (Γ.set i sl)
theorem sets_D {d : PyData} : Sets (rD d) (.dat d) := fun B H H2 σ Γ i v G s h => (G.mono s).setD i h
theorem sets_N {ds : List PyData} : Sets (rN ds) (.lst ds) := fun B H H2 σ Γ i v G s ⟨l, vs, e1, e2, e3, q⟩ => by
  rw [e1]
  exact G.setN i e2 s ⟨l, vs, rfl, G.same.free e2, e3, q⟩
theorem sets_X {u : V} : Sets (rX u) (.raw u) := fun B H H2 σ Γ i v G s h => by
  have e : v = u := h
  rw [e]
  exact (G.mono s).set i rfl rfl
section
variable {X : Cx} {B B0 H : Hp} {σ : L2.St} {Γ : List Sl} {a b c e : Expr} {pos p p1 p2 apos cpos : Pos} {d : PyData} {ds : List PyData} {i j : Int} {x y z : Str} {R R' : VR} {es : List Expr} {rest body orelse : List Stmt} {D : Ends} {sl sl' : Sl}
theorem rss_set0 (n : Nat) (G : Good B H σ Γ) (he : EV X e σ H R) (hs : Sets R sl) (k : ∀ σ' H', Good B H' σ' (Γ.set n sl) → RSs X rest D σ' H')
    (nd : X.N.Nodup) (hi : X.N[n]? = some x) (hx : Loc X.env.scope x) (hsw : swapsWith e (some (.Name x p)) pos.line X.env = pure false) (hf : X.fn x = true ∨ X.env.scope.names.lookup x = some .local) :
    RSs X (.Assign [.Name x p] e pos :: rest) D σ H :=
  rss_cons (RS.of (ps_set nd hi hx re_pe hsw hf) (he H (Same.refl _) _ fun v H2 s r => k _ _ (hs _ _ _ _ _ n v G s r)))
/-- name = data | a new list | the very value -/
theorem rss_set (n : Nat) (he : ED X e σ H d) (k : ∀ σ' H', Good B H' σ' (Γ.set n (.dat d)) → RSs X rest D σ' H') (G : Good B H σ Γ := by assumption)
    (nd : X.N.Nodup := by assumption) (hi : X.N[n]? = some x := by rfl) (hx : Loc X.env.scope x := by first | exact Or.inl rfl | exact Or.inr rfl) (hsw : swapsWith e (some (.Name x p)) pos.line X.env = pure false := by rfl) (hf : X.fn x = true ∨ X.env.scope.names.lookup x = some .local := by first | exact .inl rfl | exact .inr rfl) :
    RSs X (.Assign [.Name x p] e pos :: rest) D σ H := rss_set0 n G he sets_D k nd hi hx hsw hf
theorem rss_setN (n : Nat) (he : EN X e σ H ds) (k : ∀ σ' H', Good B H' σ' (Γ.set n (.lst ds)) → RSs X rest D σ' H') (G : Good B H σ Γ := by assumption)
    (nd : X.N.Nodup := by assumption) (hi : X.N[n]? = some x := by rfl) (hx : Loc X.env.scope x := by first | exact Or.inl rfl | exact Or.inr rfl) (hsw : swapsWith e (some (.Name x p)) pos.line X.env = pure false := by rfl) (hf : X.fn x = true ∨ X.env.scope.names.lookup x = some .local := by first | exact .inl rfl | exact .inr rfl) :
    RSs X (.Assign [.Name x p] e pos :: rest) D σ H := rss_set0 n G he sets_N k nd hi hx hsw hf
theorem rss_setX {u : V} (n : Nat) (he : EX X e σ H u) (k : ∀ σ' H', Good B H' σ' (Γ.set n (.raw u)) → RSs X rest D σ' H') (G : Good B H σ Γ := by assumption)
    (nd : X.N.Nodup := by assumption) (hi : X.N[n]? = some x := by rfl) (hx : Loc X.env.scope x := by first | exact Or.inl rfl | exact Or.inr rfl) (hsw : swapsWith e (some (.Name x p)) pos.line X.env = pure false := by rfl) (hf : X.fn x = true ∨ X.env.scope.names.lookup x = some .local := by first | exact .inl rfl | exact .inr rfl) :
    RSs X (.Assign [.Name x p] e pos :: rest) D σ H := rss_set0 n G he sets_X k nd hi hx hsw hf
/-- a, b = e, f -/
theorem rss_par {px py pt : Pos} {kt k2 : Nat} {pt2 : Pos} (n m : Nat) (ha : EV X a σ H R ∧ Sets R sl) (hb : EV X b σ H R' ∧ Sets R' sl') (k : ∀ σ' H', Good B H' σ' ((Γ.set n sl).set m sl') → RSs X rest D σ' H') (G : Good B H σ Γ := by assumption)
    (nd : X.N.Nodup := by assumption) (hc : X.calm = true := by rfl) (hi : X.N[n]? = some x := by rfl) (hj : X.N[m]? = some y := by rfl) (hij : n ≠ m := by decide) (hx : X.env.scope.names.lookup x = some .local := by rfl) (hy : X.env.scope.names.lookup y = some .local := by rfl)
    (hw : swappedStores [.Tuple [.Name x px, .Name y py] kt pt] (.Tuple [a, b] k2 pt2) X.env = pure (some [x, y]) := by rfl)
    (hs : swapsWithSole [.Tuple [.Name x px, .Name y py] kt pt] (.Tuple [a, b] k2 pt2) pos.line X.env = pure false := by rfl)
    (h1 : starEach [a, b] X.env = (false, eval a X.env) :: starEach [b] X.env := by rfl) (h2 : starEach [b] X.env = (false, eval b X.env) :: starEach [] X.env := by rfl) :
    RSs X (.Assign [.Tuple [.Name x px, .Name y py] kt pt] (.Tuple [a, b] k2 pt2) pos :: rest) D σ H :=
  rss_cons (RS.of (ps_par hc nd hi hj hij hx hy (pa_cons re_pe (pa_cons re_pe pa_nil h2) h1) hw hs) (ha.1 H (Same.refl _) _ fun u H1 s1 r1 => hb.1 H1 s1 _ fun v H2 s2 r2 =>
    ⟨u, v, rfl, k _ _ (hb.2 _ _ _ _ _ m v (ha.2 _ _ _ _ _ n u G s1 r1) s2 r2)⟩))
theorem pD (h : ED X e σ H d) : EV X e σ H (rD d) ∧ Sets (rD d) (.dat d) := ⟨h, sets_D⟩
theorem pN (h : EN X e σ H ds) : EV X e σ H (rN ds) ∧ Sets (rN ds) (.lst ds) := ⟨h, sets_N⟩
/-- name += e, name -= e, .. of ints -/
theorem rss_aug {op : Operator} {g : Int → Int → Int} (n : Nat) (ho : PIp X op (fun x y H Q => ∃ i j, x = .int i ∧ y = .int j ∧ Q (.int (g i j)) H)) (hΓ : Γ[n]? = some (.dat (.int i))) (he : ED X e σ H (.int j)) (k : ∀ σ' H', Good B H' σ' (Γ.set n (.dat (.int (g i j)))) → RSs X rest D σ' H')
    (G : Good B H σ Γ := by assumption) (nd : X.N.Nodup := by assumption) (hi : X.N[n]? = some x := by rfl) (hx : Loc X.env.scope x := by first | exact Or.inl rfl | exact Or.inr rfl) (hf : X.fn x = true ∨ X.env.scope.names.lookup x = some .local := by first | exact .inl rfl | exact .inr rfl) :
    RSs X (.AugAssign (.Name x p) op e pos :: rest) D σ H :=
  rss_cons (RS.of (ps_aug nd hi hx re_pe ho hf) (by
    obtain ⟨v, e1, q1⟩ := G.dat hΓ
    refine ⟨v, e1, he H (Same.refl _) _ fun u H1 s1 hu => ⟨i, j, q1.ofInt, Im.ofInt hu, ?_⟩⟩
    exact k _ _ ((G.mono s1).setD n (im_int _))))
theorem pip_of {op : Operator} {g : Int → Int → Int} (ho : OpR X (inplaceOp op) (rI0 fun i j => .int (g i j))) : PIp X op (fun x y H Q => ∃ i j, x = .int i ∧ y = .int j ∧ Q (.int (g i j)) H) := fun pins s σ H x y v u Q I r1 r2 h => ho pins s σ H x y v u Q I r1 r2 h
theorem rss_augC {op : Operator} {g : Int → Int → Int} {C : Int → Int → Prop} (n : Nat) (ho : OpR X (inplaceOp op) (rI C fun i j => .int (g i j))) (hΓ : Γ[n]? = some (.dat (.int i))) (he : ED X e σ H (.int j)) (hC : C i j) (k : ∀ σ' H', Good B H' σ' (Γ.set n (.dat (.int (g i j)))) → RSs X rest D σ' H')
    (G : Good B H σ Γ := by assumption) (nd : X.N.Nodup := by assumption) (hi : X.N[n]? = some x := by rfl) (hx : Loc X.env.scope x := by first | exact Or.inl rfl | exact Or.inr rfl) (hf : X.fn x = true ∨ X.env.scope.names.lookup x = some .local := by first | exact .inl rfl | exact .inr rfl) :
    RSs X (.AugAssign (.Name x p) op e pos :: rest) D σ H :=
  rss_cons (RS.of (ps_aug (ti := rI C fun i j => .int (g i j)) nd hi hx re_pe (fun pins s σ H x y v u Q I r1 r2 h => ho pins s σ H x y v u Q I r1 r2 h) hf) (by
    obtain ⟨v, e1, q1⟩ := G.dat hΓ
    refine ⟨v, e1, he H (Same.refl _) _ fun u H1 s1 hu => ⟨i, j, q1.ofInt, Im.ofInt hu, hC, ?_⟩⟩
    exact k _ _ ((G.mono s1).setD n (im_int _))))
theorem ixN_of {n : Nat} {i : Int} {k : Nat} (hi : i = (k : Int)) (hk : k < n) : ixN n i = some k := by
  unfold ixN
  rw [hi, if_pos (by omega), if_pos (by omega)]
  congr 1
/-- name[i] = data -/
theorem rss_setIx (n k : Nat) (hΓ : Γ[n]? = some (.lst ds)) (hi : ED X b σ H (.int i)) (he : ED X e σ H d) (hik : i = (k : Int)) (hk : k < ds.length) (q : ∀ H', Good B H' σ (Γ.set n (.lst (ds.set k d))) → RSs X rest D σ H')
    (G : Good B H σ Γ := by assumption) (hN : X.N[n]? = some x := by rfl) (hv : Vis X.env.scope x := by first | exact Or.inl rfl | exact Or.inr (Or.inl rfl) | exact Or.inr (Or.inr rfl)) (hd : (x == ("__debug__" : Str)) = false := by decide) (hcd : (x == ("__classdict__" : Str)) = false := by decide)
    (ha : ∀ v, assign (.Subscript (.Name x p1) b p) X.env v = (do
      let ov ← holding [v] (eval (.Name x p1) X.env)
      let iv ← holding [v, ov] (eval b X.env)
      standAt p
      holding [v, ov, iv] (setItem ov iv v)
      release [v, ov, iv] []) := by intro _; rfl)
    (hs : swapsWithSole [.Subscript (.Name x p1) b p] e pos.line X.env = pure false := by rfl) (hw : swappedStores [.Subscript (.Name x p1) b p] e X.env = pure none := by rfl)
    (h1 : (assignEach [.Subscript (.Name x p1) b p] X.env).map (·.2) = [assign (.Subscript (.Name x p1) b p) X.env] := by rfl) :
    RSs X (.Assign [.Subscript (.Name x p1) b p] e pos :: rest) D σ H :=
  rss_cons (RS.of (ps_asg re_pe (pg_sub (pe_var hN hv hd hcd) re_pe set_list ha) hs hw h1) (he H (Same.refl _) _ fun v H1 s1 hv => by
    obtain ⟨l, vs, e1, e2, e3, q3⟩ := (G.mono s1).lst hΓ
    refine ⟨_, e1, hi H1 s1 _ fun u H2 s2 hu => ?_⟩
    have G2 := (G.mono s1).mono s2
    have hl := q3.length
    refine ⟨l, vs, i, k, rfl, Im.ofInt hu, s2 _ _ e3, ixN_of hik (by omega), ?_⟩
    have nt : ∀ xs, H2 l ≠ some (.tup xs) := fun xs z => by rw [s2 _ _ e3] at z; cases z
    exact q _ (G2.upd hΓ rfl e1 ⟨l, _, rfl, e2, upd_same, ((q3.mono (Tk.of s2)).set k (Im.mono (Tk.of s2) _ _ hv)).mono (Tk.upd nt)⟩ rfl)))
theorem get_list : PGet X (fun x y H Q => ∃ p xs i j v, x = .ref p ∧ y = .int i ∧ SqL X.K H p xs ∧ i = ((j : Nat) : Int) ∧ xs[j]? = some v ∧ Q v H) := by
  intro pins s σ H o i ov iv Q I ro ri h
  obtain ⟨p, xs, k, j, v, rfl, rfl, hq, hj, hv, q⟩ := h
  cases ro
  obtain ⟨t, rfl⟩ := ri
  obtain ⟨its, r, pl, hz⟩ := I.list hq
  obtain ⟨w, ew, rw'⟩ := r.get hv
  have hl := r.length
  have hlt : j < its.length := (List.getElem?_eq_some_iff.mp ew).1
  have hn := line63
  exact getItem_listL (x := w) pl.isList (by omega) (by omega) (by
    have e : k.toNat = j := by omega
    rw [e]
    simpa using ew) ⟨v, H, I, rw', q⟩
/-- name[i] += e, of ints -/
theorem rss_augIx {op : Operator} {g : Int → Int → Int} {m : Int} (n k : Nat) (ho : PIp X op (fun x y H Q => ∃ i j, x = .int i ∧ y = .int j ∧ Q (.int (g i j)) H)) (hΓ : Γ[n]? = some (.lst ds)) (hi : ED X b σ H (.int i)) (he : ED X e σ H (.int j)) (hik : i = (k : Int)) (hk : ds[k]? = some (.int m))
    (q : ∀ H', Good B H' σ (Γ.set n (.lst (ds.set k (.int (g m j))))) → RSs X rest D σ H')
    (G : Good B H σ Γ := by assumption) (hN : X.N[n]? = some x := by rfl) (hv : Vis X.env.scope x := by first | exact Or.inl rfl | exact Or.inr (Or.inl rfl) | exact Or.inr (Or.inr rfl)) (hd : (x == ("__debug__" : Str)) = false := by decide) (hcd : (x == ("__classdict__" : Str)) = false := by decide)
    (ha : ∀ ov iv new, augStore b ov iv new = (do holding [new, ov, iv] (setItem ov iv new); release [new, ov, iv] []; pure .next) := by intros; rfl) :
    RSs X (.AugAssign (.Subscript (.Name x p1) b p) op e pos :: rest) D σ H :=
  rss_cons (RS.of (ps_augS (pe_var hN hv hd hcd) re_pe get_list re_pe ho set_list ha) (by
    obtain ⟨l, vs, e1, e2, e3, q3⟩ := G.lst hΓ
    obtain ⟨v0, e4, q4⟩ := q3.get hk
    have hl := q3.length
    have hkl : k < ds.length := (List.getElem?_eq_some_iff.mp hk).1
    refine ⟨_, e1, hi H (Same.refl _) _ fun u H1 s1 hu => ⟨l, vs, i, k, v0, rfl, Im.ofInt hu, SqL.of (s1 _ _ e3), hik, e4, he H1 s1 _ fun w' H2 s2 hw => ?_⟩⟩
    refine ⟨m, j, q4.ofInt, Im.ofInt hw, l, vs, i, k, rfl, Im.ofInt hu, s2 _ _ (s1 _ _ e3), ixN_of hik (by omega), ?_⟩
    have G2 := (G.mono s1).mono s2
    have nt : ∀ xs, H2 l ≠ some (.tup xs) := fun xs z => by rw [s2 _ _ (s1 _ _ e3)] at z; cases z
    exact q _ (G2.upd hΓ rfl e1 ⟨l, _, rfl, e2, upd_same, ((q3.mono (Tk.of (s1.trans s2))).set k (im_int _)).mono (Tk.upd nt)⟩ rfl)))
/-- name.append(data) -/
theorem rss_app (n : Nat) (hΓ : Γ[n]? = some (.lst ds)) (he : ED X e σ H d) (hz : ds.length < sizeLine) (q : ∀ H', Good B H' σ (Γ.set n (.lst (ds ++ [d]))) → RSs X rest D σ H')
    (G : Good B H σ Γ := by assumption) (hN : X.N[n]? = some x := by rfl) (hv : Vis X.env.scope x := by first | exact Or.inl rfl | exact Or.inr (Or.inl rfl) | exact Or.inr (Or.inr rfl)) (hd : (x == ("__debug__" : Str)) = false := by decide) (hcd : (x == ("__classdict__" : Str)) = false := by decide)
    (hsw : swapsWith (.Call (.Attribute (.Name x p1) "append" apos) [e] [] cpos) none pos.line X.env = pure false := by rfl)
    (hbase : attributeBase (.Name x p1) "append" X.env (eval (.Name x p1) X.env) = eval (.Name x p1) X.env := by rfl)
    (hfew : ((backTo cpos (starEach [e] X.env)).all (fun x => !x.1) && (backToKw cpos (keywordEach [] X.env)).all (fun x => x.1.isSome) && decide ([e].length + ([] : List Keyword).length + (if ([] : List Keyword).isEmpty then 0 else 1) < 30)) = true := by rfl)
    (hline : (apos.endLine == cpos.line) = true := by rfl) (hst : starEach [e] X.env = (false, eval e X.env) :: starEach [] X.env := by rfl) (hplain : (backTo cpos (starEach [] X.env)).any (·.1) = false := by rfl) :
    RSs X (.Expr (.Call (.Attribute (.Name x p1) "append" apos) [e] [] cpos) pos :: rest) D σ H :=
  rss_cons (RS.of (ps_expr (pe_bm PySem.F.plainAttrs_list PySem.F.slot_list_append PySem.F.type_list_append mt_append (pe_var hN hv hd hcd) (pa_cons re_pe pa_nil hst) hbase hfew hline hst hplain) hsw) (by
    obtain ⟨l, vs, e1, e2, e3, q3⟩ := G.lst hΓ
    refine ⟨_, e1, Or.inl ⟨rfl, _, SqL.of e3⟩, he H (Same.refl _) _ fun v H1 s1 hv => ⟨l, vs, v, rfl, rfl, s1 _ _ e3, by rw [q3.length]; exact hz, ?_⟩⟩
    have nt : ∀ xs, H1 l ≠ some (.tup xs) := fun xs z => by rw [s1 _ _ e3] at z; cases z
    exact q _ ((G.mono s1).upd hΓ rfl e1 ⟨l, _, rfl, e2, upd_same, ((q3.mono (Tk.of s1)).append (imAll_cons hv imAll_nil)).mono (Tk.upd nt)⟩ rfl)))
/-- an expression whose value is dropped -/
theorem rss_expr (he : EV X e σ H R) (k : ∀ H', Good B H' σ Γ → RSs X rest D σ H') (G : Good B H σ Γ := by assumption) (hs : swapsWith e none pos.line X.env = pure false := by rfl) : RSs X (.Expr e pos :: rest) D σ H :=
  rss_cons (RS.of (ps_expr re_pe hs) (he H (Same.refl _) _ fun v H1 s1 r => k H1 (G.mono s1)))
theorem rss_if {k : Bool} (hc : ET X c σ H k) (h1 : ∀ H', Good B H' σ Γ → k = true → RSs X body { D with nx := fun σ H => RSs X rest D σ H } σ H') (h2 : ∀ H', Good B H' σ Γ → k = false → RSs X orelse { D with nx := fun σ H => RSs X rest D σ H } σ H') (G : Good B H σ Γ := by assumption) :
    RSs X (.If c body orelse pos :: rest) D σ H :=
  rss_cons (RS.of (ps_if rt_pt rss_pss rss_pss) (hc H (Same.refl _) _ fun H1 s1 => by
    cases k with
    | true => exact iteT (h1 H1 (G.mono s1) rfl)
    | false => exact iteF (h2 H1 (G.mono s1) rfl)))
/-- if c: .. without else, c false -/
theorem rss_ifF {k : Bool} (hc : ET X c σ H k) (hk : k = false) (h2 : ∀ H', Good B H' σ Γ → RSs X rest D σ H') (G : Good B H σ Γ := by assumption) : RSs X (.If c body [] pos :: rest) D σ H :=
  rss_if hc (fun H' G z => by rw [hk] at z; cases z) (fun H' G _ => rss_nil (h2 H' G)) G
theorem rss_break (h : D.bk σ H) : RSs X (.Break pos :: rest) D σ H := rss_cons (RS.of ps_break h)
/-- what is wanted of a def's end -/
def Dr (B : Hp) (r : Sl) : Ends where
  nx := fun _ H' => Same B H' ∧ SlOk B H' (some .non) r
  rt := fun v H' => Same B H' ∧ SlOk B H' (some v) r
theorem SlOk.less {o : Option V} (h : SlOk B H o sl) (s : Same B0 B) (n : ∀ ds, sl ≠ .rls ds) : SlOk B0 H o sl := by
  cases sl with
  | un => trivial
  | dat d => exact h
  | lst ds => obtain ⟨l, vs, e1, e2, q⟩ := h; exact ⟨l, vs, e1, s.free e2, q⟩
  | rls ds => exact absurd rfl (n ds)
  | dic kvs => obtain ⟨l, vs, e1, e2, q⟩ := h; exact ⟨l, vs, e1, s.free e2, q⟩
  | raw v => exact h
theorem rss_ret (he : EV X e σ H R) (k : ∀ v H', Same H H' → R H H' v → D.rt v H') : RSs X (.Return (some e) pos :: rest) D σ H := rss_cons (RS.of (ps_ret re_pe) (he H (Same.refl _) _ fun v H1 s1 r => k v H1 s1 r))
/-- return data | a new list -/
theorem rss_retD (he : ED X e σ H d) (hD : D.rt = (Dr B0 (.dat d)).rt := by rfl) (G : Good B H σ Γ := by assumption) (hB : Same B0 B := by first | exact Same.refl _ | assumption) : RSs X (.Return (some e) pos :: rest) D σ H :=
  rss_ret he fun v H' s r => by
    rw [hD]
    exact ⟨hB.trans (G.same.trans s), v, rfl, r⟩
theorem rss_retN (he : EN X e σ H ds) (hD : D.rt = (Dr B0 (.lst ds)).rt := by rfl) (G : Good B H σ Γ := by assumption) (hB : Same B0 B := by first | exact Same.refl _ | assumption) : RSs X (.Return (some e) pos :: rest) D σ H :=
  rss_ret he fun v H' s ⟨l, vs, e1, e2, e3, q⟩ => by
    rw [hD]
    exact ⟨hB.trans (G.same.trans s), l, vs, by rw [e1], (hB.trans G.same).free e2, e3, q⟩
/-- return a list of the frame's own -/
theorem rss_retL (n : Nat) (hΓ : Γ[n]? = some (.lst ds)) (hD : D.rt = (Dr B0 (.lst ds)).rt := by rfl) (G : Good B H σ Γ := by assumption) (hB : Same B0 B := by first | exact Same.refl _ | assumption)
    (hN : X.N[n]? = some x := by rfl) (hv : Vis X.env.scope x := by first | exact Or.inl rfl | exact Or.inr (Or.inl rfl) | exact Or.inr (Or.inr rfl)) (hd : (x == ("__debug__" : Str)) = false := by decide) (hcd : (x == ("__classdict__" : Str)) = false := by decide) : RSs X (.Return (some (.Name x p)) pos :: rest) D σ H :=
  rss_cons (RS.of (ps_ret (pe_var hN hv hd hcd)) (by
    obtain ⟨l, vs, e1, e2, e3, q3⟩ := G.lst hΓ
    refine ⟨_, e1, ?_⟩
    show D.rt _ H
    rw [hD]
    exact ⟨hB.trans G.same, l, vs, rfl, hB.free e2, e3, q3⟩))
/-- the end without a return -/
theorem rss_end (hD : D.nx = (Dr B0 (.dat .none)).nx := by rfl) (G : Good B H σ Γ := by assumption) (hB : Same B0 B := by first | exact Same.refl _ | assumption) : RSs X [] D σ H := rss_nil (by
  rw [hD]
  exact ⟨hB.trans G.same, _, rfl, im_none⟩)
end
end Dw
/-! Dw: loops, comprehensions, defs and their calls -/
namespace Dw
open PySem PySem.Spec PyProof.Rows L2
section
variable {X : Cx} {B B0 H : Hp} {σ : L2.St} {Γ : List Sl} {a b c e iter tg elt : Expr} {pos p p1 p2 p3 tpos : Pos} {d : PyData} {ds es : List PyData} {i j : Int} {x y z : Str} {R R' : VR} {rest body orelse : List Stmt} {D : Ends}
/-! ### for -/
/-- for over any walk -/
theorem rss_for {wi : TI} {g : TG} (pi : PI X tg iter wi) (pg : PG X tg g) (hp : PassesOwn (model X.prog X.w) X.A X.env X.xe) (hc : X.calm = true)
    (h : wi σ H fun J H1 => ∃ (n : Nat) (Gp : Hp → Prop) (Y : Nat → Hp → V → Hp → Prop) (P : Nat → L2.St → Hp → Prop), Walk J n Gp Y ∧ P 0 σ H1 ∧ (∀ i σ H, i ≤ n → P i σ H → Gp H) ∧
      (∀ i x σ H H', i < n → P i σ H → Y i H x H' → g x σ H' fun σ2 H2 => RSs X body { D with nx := P (i + 1), ct := P (i + 1), bk := fun σ H => RSs X rest D σ H } σ2 H2) ∧ ∀ σ H, P n σ H → RSs X rest D σ H)
    (mono : ∀ (R R' : It → Hp → Prop), (∀ J H, R J H → R' J H) → wi σ H R → wi σ H R') (hs : ∀ x, foldedSetIterable iter X.env x = pure x) : RSs X (.For tg iter body [] pos :: rest) D σ H :=
  rss_cons (RS.of (ps_for hp hc pi pg rss_pss hs) (mono _ _ (fun J H1 ⟨n, Gp, Y, P, w, h0, hG, st, hd⟩ => for_it w (D := { D with nx := fun σ H => RSs X rest D σ H }) P h0 hG st hd) h))
/-- the shape of a turn's end -/
abbrev Turned (X : Cx) (D : Ends) (rest : List Stmt) (J : Nat → List Sl → Prop) (B : Hp) (i : Nat) : Ends :=
  { D with nx := fun σ H => ∃ Γ, J (i + 1) Γ ∧ Good B H σ Γ, ct := fun σ H => ∃ Γ, J (i + 1) Γ ∧ Good B H σ Γ, bk := fun σ H => RSs X rest D σ H }
/-- for name in a tuple -/
theorem rss_forT (t : Nat) (ha : ED X iter σ H (.tuple ds)) (J : Nat → List Sl → Prop) (h0 : J 0 Γ)
    (st : ∀ B', Same B B' → ∀ i d Γ σ H, ds[i]? = some d → J i Γ → Good B' H σ (Γ.set t (.dat d)) → RSs X body (Turned X D rest J B' i) σ H)
    (hd : ∀ B', Same B B' → ∀ Γ σ H, J ds.length Γ → Good B' H σ Γ → RSs X rest D σ H) (G : Good B H σ Γ := by assumption)
    (nd : X.N.Nodup := by assumption) (hi : X.N[t]? = some x := by rfl) (hx : Loc X.env.scope x := by first | exact Or.inl rfl | exact Or.inr rfl) (hf : X.fn x = true ∨ X.env.scope.names.lookup x = some .local := by first | exact .inl rfl | exact .inr rfl)
    (hp : PassesOwn (model X.prog X.w) X.A X.env X.xe := by exact PassesOwn.never) (hc : X.calm = true := by rfl) (hs : ∀ x, foldedSetIterable iter X.env x = pure x := by intro _; rfl) : RSs X (.For (.Name x p) iter body [] pos :: rest) D σ H := by
  refine rss_for (pi_tup re_pe) (pg_name nd hi hx hf) hp hc (ha H (Same.refl _) _ fun v H1 s1 hv => ?_) (fun R R' k h => RE.imp h fun v H1 ⟨a, e1, q, r⟩ => ⟨a, e1, q, k _ _ r⟩) hs
  obtain ⟨l, vs, e1, h1, h2⟩ := Im.ofTup hv
  obtain ⟨B', sB, G', hB⟩ := (G.mono s1).rebase
  have hl := h2.length
  have kB : B' l = some (.tup vs) := hB l _ h1 ((G.mono s1).noTup h1)
  have iB : ImAll B' ds vs := (G.mono s1).imBaseAll hB h2
  refine ⟨l, e1, ⟨vs, SqT.of h1⟩, vs.length, _, _, fun i σ H => ∃ Γ, J i Γ ∧ Good B' H σ Γ, walk_tup, ⟨Γ, h0, G'⟩, fun i σ H _ ⟨Γ, _, g⟩ => SqT.of (g.same _ _ kB), fun i x σ H H' hi' ⟨Γ, j, g⟩ ⟨eH, ex⟩ => ?_, fun σ H ⟨Γ, j, g⟩ => hd B' sB Γ σ H (by rw [hl] at j; exact j) g⟩
  subst eH
  have hi2 : i < ds.length := by omega
  obtain ⟨v, e2, q2⟩ := iB.get (List.getElem?_eq_getElem hi2)
  rw [ex] at e2
  cases e2
  exact st B' sB i _ Γ _ _ (List.getElem?_eq_getElem hi2) j (g.setD t (q2.mono (Tk.of g.same)))
/-- for name in a list that the loop leaves as it is -/
theorem rss_forL (t : Nat) (ha : EN X iter σ H ds) (J : Nat → List Sl → Prop) (h0 : J 0 Γ)
    (st : ∀ B', Same B B' → ∀ i d Γ σ H, ds[i]? = some d → J i Γ → Good B' H σ (Γ.set t (.dat d)) → RSs X body (Turned X D rest J B' i) σ H)
    (hd : ∀ B', Same B B' → ∀ Γ σ H, J ds.length Γ → Good B' H σ Γ → RSs X rest D σ H) (G : Good B H σ Γ := by assumption)
    (nd : X.N.Nodup := by assumption) (hi : X.N[t]? = some x := by rfl) (hx : Loc X.env.scope x := by first | exact Or.inl rfl | exact Or.inr rfl) (hf : X.fn x = true ∨ X.env.scope.names.lookup x = some .local := by first | exact .inl rfl | exact .inr rfl)
    (hp : PassesOwn (model X.prog X.w) X.A X.env X.xe := by exact PassesOwn.never) (hc : X.calm = true := by rfl) (hs : ∀ x, foldedSetIterable iter X.env x = pure x := by intro _; rfl) : RSs X (.For (.Name x p) iter body [] pos :: rest) D σ H := by
  refine rss_for (pi_list re_pe) (pg_name nd hi hx hf) hp hc (ha H (Same.refl _) _ fun v H1 s1 hv => ?_) (fun R R' k h => RE.imp h fun v H1 ⟨a, e1, q, r⟩ => ⟨a, e1, q, k _ _ r⟩) hs
  obtain ⟨l, vs, e1, n1, h1, h2⟩ := hv
  obtain ⟨B', sB, G', hB⟩ := (G.mono s1).rebase
  have hl := h2.length
  have kB : B' l = some (.lst vs) := hB l _ h1 fun i sl g1 g2 g3 => G.noNew n1 i sl g1 g2 g3
  have iB : ImAll B' ds vs := (G.mono s1).imBaseAll hB h2
  refine ⟨l, e1, ⟨vs, SqL.of h1⟩, vs.length, _, _, fun i σ H => ∃ Γ, J i Γ ∧ Good B' H σ Γ, walk_list, ⟨Γ, h0, G'⟩, fun i σ H _ ⟨Γ, _, g⟩ => SqL.of (g.same _ _ kB), fun i x σ H H' hi' ⟨Γ, j, g⟩ ⟨eH, ex⟩ => ?_, fun σ H ⟨Γ, j, g⟩ => hd B' sB Γ σ H (by rw [hl] at j; exact j) g⟩
  subst eH
  have hi2 : i < ds.length := by omega
  obtain ⟨v, e2, q2⟩ := iB.get (List.getElem?_eq_getElem hi2)
  rw [ex] at e2
  cases e2
  exact st B' sB i _ Γ _ _ (List.getElem?_eq_getElem hi2) j (g.setD t (q2.mono (Tk.of g.same)))
/-- for name in range(n) | range(m, n) | range(m, n, c) -/
theorem rss_forR0 {wi : TI} {J0 : It} {n : Nat} {f : Nat → Int} (t : Nat) (pi : PI X (.Name x p) iter wi) (w : Walk J0 n (fun _ => True) (YFn fun i => .int (f i))) (hw : ∀ R : It → Hp → Prop, (∀ H', Same H H' → R J0 H') → wi σ H R) (mono : ∀ (R R' : It → Hp → Prop), (∀ J H, R J H → R' J H) → wi σ H R → wi σ H R')
    (J : Nat → List Sl → Prop) (h0 : J 0 Γ)
    (st : ∀ B', Same B B' → ∀ i Γ σ H, i < n → J i Γ → Good B' H σ (Γ.set t (.dat (.int (f i)))) → RSs X body (Turned X D rest J B' i) σ H)
    (hd : ∀ B', Same B B' → ∀ Γ σ H, J n Γ → Good B' H σ Γ → RSs X rest D σ H) (G : Good B H σ Γ)
    (nd : X.N.Nodup) (hi : X.N[t]? = some x) (hx : Loc X.env.scope x) (hf : X.fn x = true ∨ X.env.scope.names.lookup x = some .local)
    (hp : PassesOwn (model X.prog X.w) X.A X.env X.xe) (hc : X.calm = true) (hs : ∀ x, foldedSetIterable iter X.env x = pure x) : RSs X (.For (.Name x p) iter body [] pos :: rest) D σ H := by
  refine rss_for pi (pg_name nd hi hx hf) hp hc (hw _ fun H1 s1 => ?_) mono hs
  obtain ⟨B', sB, G', hB⟩ := (G.mono s1).rebase
  refine ⟨n, _, _, fun i σ H => ∃ Γ, J i Γ ∧ Good B' H σ Γ, w, ⟨Γ, h0, G'⟩, fun _ _ _ _ _ => trivial, fun i x σ H H' hi' ⟨Γ, j, g⟩ ⟨eH, ex⟩ => ?_, fun σ H ⟨Γ, j, g⟩ => hd B' sB Γ σ H j g⟩
  subst eH ex
  exact st B' sB i Γ _ _ hi' j (g.setD t (im_int _))
theorem ra_imp {es : List Expr} {Q Q' : List V → Hp → Prop} (h : RA X es σ H Q) (k : ∀ vs H', Q vs H' → Q' vs H') : RA X es σ H Q' := fun pos pins s I => thn (h pos pins s I) fun us s' ⟨vs, H', I', r, q⟩ => ⟨vs, H', I', r, k _ _ q⟩
theorem rss_forR1 {m : Int} (t : Nat) (ha : ED X a σ H (.int m)) (h1 : -(2 ^ 62) ≤ m) (h2 : m < 2 ^ 62) (J : Nat → List Sl → Prop) (h0 : J 0 Γ)
    (st : ∀ B', Same B B' → ∀ (i : Nat) Γ σ H, i < m.toNat → J i Γ → Good B' H σ (Γ.set t (.dat (.int (i : Int)))) → RSs X body (Turned X D rest J B' i) σ H)
    (hd : ∀ B', Same B B' → ∀ Γ σ H, J m.toNat Γ → Good B' H σ Γ → RSs X rest D σ H) (hg : Gl X "range") (hm : X.mg "range" = none) (G : Good B H σ Γ := by assumption)
    (nd : X.N.Nodup := by assumption) (hi : X.N[t]? = some x := by rfl) (hx : Loc X.env.scope x := by first | exact Or.inl rfl | exact Or.inr rfl) (hf : X.fn x = true ∨ X.env.scope.names.lookup x = some .local := by first | exact .inl rfl | exact .inr rfl)
    (hp : PassesOwn (model X.prog X.w) X.A X.env X.xe := by exact PassesOwn.never) (hc : X.calm = true := by rfl) (hst : starEach [a] X.env = [(false, eval a X.env)] := by rfl) (hs : ∀ x, foldedSetIterable (.Call (.Name "range" p1) [a] [] p2) X.env x = pure x := by intro _; rfl) : RSs X (.For (.Name x p) (.Call (.Name "range" p1) [a] [] p2) body [] pos :: rest) D σ H :=
  rss_forR0 (J0 := Itr 0 m.toNat) (f := fun i => (i : Int)) t (pi_range1 hg hm ra_pa hst) ((walk_range (lo := 0) (n := m.toNat)).mono (fun _ h => h) fun i H x H' _ _ ⟨e1, e2⟩ => ⟨e1, by rw [e2]; show V.int (0 + (i : Int)) = V.int (i : Int); rw [Int.zero_add]⟩)
    (fun R k => (ea_d ha ea_0 (by rw [hst]; rfl)).1 H (Same.refl _) _ fun vs H1 s1 r => by
      obtain ⟨v, rfl, hv⟩ := pd1 r
      exact ⟨m, by rw [Im.ofInt hv], h1, h2, k H1 s1⟩) (fun R R' k h => ra_imp h fun vs H1 ⟨j, e1, q1, q2, r⟩ => ⟨j, e1, q1, q2, k _ _ r⟩) J h0 st hd G nd hi hx hf hp hc hs
theorem rss_forR2 {l m : Int} (t : Nat) (ha : ED X a σ H (.int l)) (hb : ED X b σ H (.int m)) (h1 : -(2 ^ 62) ≤ l ∧ l < 2 ^ 62 ∧ -(2 ^ 62) ≤ m ∧ m < 2 ^ 62) (J : Nat → List Sl → Prop) (h0 : J 0 Γ)
    (st : ∀ B', Same B B' → ∀ (i : Nat) Γ σ H, i < (m - l).toNat → J i Γ → Good B' H σ (Γ.set t (.dat (.int (l + i)))) → RSs X body (Turned X D rest J B' i) σ H)
    (hd : ∀ B', Same B B' → ∀ Γ σ H, J (m - l).toNat Γ → Good B' H σ Γ → RSs X rest D σ H) (hg : Gl X "range") (hm : X.mg "range" = none) (G : Good B H σ Γ := by assumption)
    (nd : X.N.Nodup := by assumption) (hi : X.N[t]? = some x := by rfl) (hx : Loc X.env.scope x := by first | exact Or.inl rfl | exact Or.inr rfl) (hf : X.fn x = true ∨ X.env.scope.names.lookup x = some .local := by first | exact .inl rfl | exact .inr rfl)
    (hp : PassesOwn (model X.prog X.w) X.A X.env X.xe := by exact PassesOwn.never) (hc : X.calm = true := by rfl) (hst : starEach [a, b] X.env = [(false, eval a X.env), (false, eval b X.env)] := by rfl) (hst2 : starEach [b] X.env = [(false, eval b X.env)] := by rfl) (hs : ∀ x, foldedSetIterable (.Call (.Name "range" p1) [a, b] [] p2) X.env x = pure x := by intro _; rfl) : RSs X (.For (.Name x p) (.Call (.Name "range" p1) [a, b] [] p2) body [] pos :: rest) D σ H :=
  rss_forR0 (J0 := Itr l (m - l).toNat) (f := fun i => l + (i : Int)) t (pi_range2 hg hm ra_pa hst hst2) (walk_range (lo := l) (n := (m - l).toNat))
    (fun R k => (ea_d ha (ea_d hb ea_0 (by rw [hst2]; rfl)) (by rw [hst, hst2])).1 H (Same.refl _) _ fun vs H1 s1 r => by
      obtain ⟨v, u, rfl, hv, hu⟩ := pd2 r
      exact ⟨l, m, by rw [Im.ofInt hv, Im.ofInt hu], h1, k H1 s1⟩) (fun R R' k h => ra_imp h fun vs H1 ⟨i, j, e1, q1, r⟩ => ⟨i, j, e1, q1, k _ _ r⟩) J h0 st hd G nd hi hx hf hp hc hs
theorem pd3 {R S T : VR} {H H' : Hp} {vs : List V} (h : Paired (fun (R : VR) v => R H H' v) [R, S, T] vs) : ∃ v u t, vs = [v, u, t] ∧ R H H' v ∧ S H H' u ∧ T H H' t := by
  cases h with
  | cons h t =>
    obtain ⟨u, w, e, q1, q2⟩ := pd2 t
    rw [e]
    exact ⟨_, u, w, rfl, h, q1, q2⟩
theorem rss_forR3 {l m k : Int} {n : Nat} (t : Nat) (ha : ED X a σ H (.int l)) (hb : ED X b σ H (.int m)) (hk : ED X c σ H (.int k)) (h1 : RgC l m k n) (J : Nat → List Sl → Prop) (h0 : J 0 Γ)
    (st : ∀ B', Same B B' → ∀ (i : Nat) Γ σ H, i < n → J i Γ → Good B' H σ (Γ.set t (.dat (.int (l + (i : Nat) * k)))) → RSs X body (Turned X D rest J B' i) σ H)
    (hd : ∀ B', Same B B' → ∀ Γ σ H, J n Γ → Good B' H σ Γ → RSs X rest D σ H) (hg : Gl X "range") (hm : X.mg "range" = none) (G : Good B H σ Γ := by assumption)
    (nd : X.N.Nodup := by assumption) (hi : X.N[t]? = some x := by rfl) (hx : Loc X.env.scope x := by first | exact Or.inl rfl | exact Or.inr rfl) (hf : X.fn x = true ∨ X.env.scope.names.lookup x = some .local := by first | exact .inl rfl | exact .inr rfl)
    (hp : PassesOwn (model X.prog X.w) X.A X.env X.xe := by exact PassesOwn.never) (hc : X.calm = true := by rfl) (q1 : starEach [a, b, c] X.env = (false, eval a X.env) :: starEach [b, c] X.env := by rfl) (q2 : starEach [b, c] X.env = (false, eval b X.env) :: starEach [c] X.env := by rfl) (q3 : starEach [c] X.env = (false, eval c X.env) :: starEach [] X.env := by rfl)
    (pi : PI X (.Name x p) (.Call (.Name "range" p1) [a, b, c] [] p2) (iRng3 (RA X [a, b, c])) := by exact pi_range3 (by rfl) (by assumption) ra_pa)
    (hs : ∀ x, foldedSetIterable (.Call (.Name "range" p1) [a, b, c] [] p2) X.env x = pure x := by intro _; rfl) : RSs X (.For (.Name x p) (.Call (.Name "range" p1) [a, b, c] [] p2) body [] pos :: rest) D σ H :=
  rss_forR0 (J0 := Itc l k n) (f := fun i => l + (i : Nat) * k) t pi (walk_rangeC (lo := l) (c := k) (n := n))
    (fun R r => (ea_d ha (ea_d hb (ea_d hk ea_0 q3) q2) q1).1 H (Same.refl _) _ fun vs H1 s1 w => by
      obtain ⟨v, u, t, rfl, hv, hu, ht⟩ := pd3 w
      exact ⟨l, m, k, n, by rw [Im.ofInt hv, Im.ofInt hu, Im.ofInt ht], h1, r H1 s1⟩) (fun R R' k h => ra_imp h fun vs H1 ⟨i, j, c, n, e1, q1, r⟩ => ⟨i, j, c, n, e1, q1, k _ _ r⟩) J h0 st hd G nd hi hx hf hp hc hs

/-! ### for with two targets -/
theorem pg2 {px py : Pos} {kt : Nat} (t u : Nat) (nd : X.N.Nodup) (hc : X.calm = true) (hi : X.N[t]? = some x) (hx : Loc X.env.scope x) (hf : X.fn x = true ∨ X.env.scope.names.lookup x = some .local) (hj : X.N[u]? = some y) (hy : Loc X.env.scope y) (hf2 : X.fn y = true ∨ X.env.scope.names.lookup y = some .local)
    (h1 : (assignEach [.Name x px, .Name y py] X.env).length = 2) (h2 : (assignEach [.Name x px, .Name y py] X.env).findIdx? (·.1) = none)
    (h3 : (assignEach [.Name x px, .Name y py] X.env).map (·.2) = assign (.Name x px) X.env :: (assignEach [.Name y py] X.env).map (·.2)) (h4 : (assignEach [.Name y py] X.env).map (·.2) = assign (.Name y py) X.env :: (assignEach [] X.env).map (·.2)) :
    PG X (.Tuple [.Name x px, .Name y py] kt tpos) (gTup X.K 2 (gCons (gName t) (gCons (gName u) gNil))) := pg_tup hc (pgs_cons (pg_name nd hi hx hf) (pgs_cons (pg_name nd hj hy hf2) pgs_nil h4) h3) h1 h2
/-- over new pairs -/
theorem rss_for20 {px py : Pos} {kt : Nat} {wi : TI} {J0 : It} {n : Nat} {Gp : Hp → Prop} {f g : Nat → Option V} {fd gd : Nat → PyData} (t u : Nat) (pi : PI X (.Tuple [.Name x px, .Name y py] kt tpos) iter wi)
    (hw : ∀ R : It → Hp → Prop, (∀ J0 H1 n' Gp f g, Same H H1 → n' = n → Walk J0 n' Gp (YPair f g) → (∀ B', (∀ a o, H1 a = some o → (∀ xs, o = .tup xs → B' a = some o)) → (∀ H', Same B' H' → Gp H') ∧ ∀ i, i < n → ∃ v u, f i = some v ∧ g i = some u ∧ Im B' (fd i) v ∧ Im B' (gd i) u) → R J0 H1) → wi σ H R) (mono : ∀ (R R' : It → Hp → Prop), (∀ J H, R J H → R' J H) → wi σ H R → wi σ H R')
    (J : Nat → List Sl → Prop) (h0 : J 0 Γ)
    (st : ∀ B', Same B B' → ∀ i Γ σ H, i < n → J i Γ → Good B' H σ ((Γ.set t (.dat (fd i))).set u (.dat (gd i))) → RSs X body (Turned X D rest J B' i) σ H)
    (hd : ∀ B', Same B B' → ∀ Γ σ H, J n Γ → Good B' H σ Γ → RSs X rest D σ H) (G : Good B H σ Γ)
    (nd : X.N.Nodup) (hc : X.calm = true) (hi : X.N[t]? = some x) (hx : Loc X.env.scope x) (hf : X.fn x = true ∨ X.env.scope.names.lookup x = some .local) (hj : X.N[u]? = some y) (hy : Loc X.env.scope y) (hf2 : X.fn y = true ∨ X.env.scope.names.lookup y = some .local)
    (h1 : (assignEach [.Name x px, .Name y py] X.env).length = 2) (h2 : (assignEach [.Name x px, .Name y py] X.env).findIdx? (·.1) = none)
    (h3 : (assignEach [.Name x px, .Name y py] X.env).map (·.2) = assign (.Name x px) X.env :: (assignEach [.Name y py] X.env).map (·.2)) (h4 : (assignEach [.Name y py] X.env).map (·.2) = assign (.Name y py) X.env :: (assignEach [] X.env).map (·.2))
    (hp : PassesOwn (model X.prog X.w) X.A X.env X.xe) (hs : ∀ x, foldedSetIterable iter X.env x = pure x) : RSs X (.For (.Tuple [.Name x px, .Name y py] kt tpos) iter body [] pos :: rest) D σ H := by
  refine rss_for pi (pg2 t u nd hc hi hx hf hj hy hf2 h1 h2 h3 h4) hp hc (hw _ fun J0 H1 n' Gp f g s1 en w hh => ?_) mono hs
  subst en
  obtain ⟨B', sB, G', hB⟩ := (G.mono s1).rebase
  obtain ⟨hGp, hits⟩ := hh B' fun a o ha xs ex => by
    rw [ex] at ha ⊢
    exact hB a _ ha ((G.mono s1).noTup ha)
  refine ⟨n', _, _, fun i σ H => ∃ Γ, J i Γ ∧ Good B' H σ Γ, w, ⟨Γ, h0, G'⟩, fun _ _ _ _ ⟨Γ, _, g⟩ => hGp _ g.same, fun i x σ H H' hi' ⟨Γ, j, gd'⟩ ⟨T, v, u', e1, e2, e3, e4, e5⟩ => ?_, fun σ H ⟨Γ, j, g⟩ => hd B' sB Γ σ H j g⟩
  subst e1 e3
  obtain ⟨v2, u2, q1, q2, q3, q4⟩ := hits i hi'
  rw [e4] at q1
  cases q1
  rw [e5] at q2
  cases q2
  have g2 := gd'.mono (Same.new (o := .tup [v, u']) e2)
  have tk : Tk B' (upd H T (.tup [v, u'])) := Tk.of g2.same
  refine ⟨T, [v, u'], rfl, SqT.of upd_same, rfl, v, [u'], rfl, u', [], rfl, rfl, ?_⟩
  exact st B' sB i Γ _ _ hi' j ((g2.setD t (q3.mono tk)).setD u (q4.mono tk))
/-- for i, x in enumerate(a tuple) -/
theorem rss_enumT {px py : Pos} {kt : Nat} (t u : Nat) (ha : ED X a σ H (.tuple ds)) (J : Nat → List Sl → Prop) (h0 : J 0 Γ)
    (st : ∀ B', Same B B' → ∀ (i : Nat) Γ σ H (hi : i < ds.length), J i Γ → Good B' H σ ((Γ.set t (.dat (.int (i : Int)))).set u (.dat (ds[i]?.getD .none))) → RSs X body (Turned X D rest J B' i) σ H)
    (hd : ∀ B', Same B B' → ∀ Γ σ H, J ds.length Γ → Good B' H σ Γ → RSs X rest D σ H) (hg : Gl X "enumerate") (hm : X.mg "enumerate" = none) (G : Good B H σ Γ := by assumption)
    (nd : X.N.Nodup := by assumption) (hc : X.calm = true := by rfl) (hi : X.N[t]? = some x := by rfl) (hx : Loc X.env.scope x := by first | exact Or.inl rfl | exact Or.inr rfl) (hf : X.fn x = true ∨ X.env.scope.names.lookup x = some .local := by first | exact .inl rfl | exact .inr rfl)
    (hj : X.N[u]? = some y := by rfl) (hy : Loc X.env.scope y := by first | exact Or.inl rfl | exact Or.inr rfl) (hf2 : X.fn y = true ∨ X.env.scope.names.lookup y = some .local := by first | exact .inl rfl | exact .inr rfl)
    (h1 : (assignEach [.Name x px, .Name y py] X.env).length = 2 := by rfl) (h2 : (assignEach [.Name x px, .Name y py] X.env).findIdx? (·.1) = none := by rfl)
    (h3 : (assignEach [.Name x px, .Name y py] X.env).map (·.2) = assign (.Name x px) X.env :: (assignEach [.Name y py] X.env).map (·.2) := by rfl) (h4 : (assignEach [.Name y py] X.env).map (·.2) = assign (.Name y py) X.env :: (assignEach [] X.env).map (·.2) := by rfl)
    (hp : PassesOwn (model X.prog X.w) X.A X.env X.xe := by exact PassesOwn.never) (hst : starEach [a] X.env = [(false, eval a X.env)] := by rfl) (hs : ∀ x, foldedSetIterable (.Call (.Name "enumerate" p1) [a] [] p2) X.env x = pure x := by intro _; rfl) :
    RSs X (.For (.Tuple [.Name x px, .Name y py] kt tpos) (.Call (.Name "enumerate" p1) [a] [] p2) body [] pos :: rest) D σ H := by
  refine rss_for20 (n := ds.length) (fd := fun i => .int (i : Nat)) (gd := fun i => ds[i]?.getD .none) (Gp := fun _ => True) (f := fun _ => none) (g := fun _ => none) (J0 := Itr 0 0) t u (pi_enumT hg hm ra_pa hst) (fun R k => (ea_d ha ea_0 (by rw [hst]; rfl)).1 H (Same.refl _) _ fun vs H1 s1 r => ?_)
    (fun R R' k h => ra_imp h fun vs H1 ⟨l, xs, e1, q1, r⟩ => ⟨l, xs, e1, q1, k _ _ r⟩) J h0 (fun B' s i Γ σ H hi => st B' s i Γ σ H hi) hd G nd hc hi hx hf hj hy hf2 h1 h2 h3 h4 hp hs
  obtain ⟨v, rfl, hv⟩ := pd1 r
  obtain ⟨l, vs, rfl, q1, q2⟩ := Im.ofTup hv
  have hl := q2.length
  refine ⟨l, vs, rfl, SqT.of q1, k _ _ _ _ _ _ s1 hl walk_enumT fun B' hB => ⟨fun H' sB => SqT.of (sB _ _ (hB l _ q1 vs rfl)), fun i hi => ?_⟩⟩
  have tk : Tk H1 B' := fun a xs e => hB a _ e xs rfl
  obtain ⟨w', e1, q3⟩ := (q2.mono tk).get (List.getElem?_eq_getElem hi)
  exact ⟨_, w', rfl, e1, im_int _, by rw [List.getElem?_eq_getElem hi]; exact q3⟩
/-- for i, c in enumerate(a text) -/
theorem rss_enumS {px py : Pos} {kt : Nat} (t u : Nat) (ha : ED X a σ H (.str z)) (J : Nat → List Sl → Prop) (h0 : J 0 Γ)
    (st : ∀ B', Same B B' → ∀ (i : Nat) Γ σ H (hi : i < z.cps.size), J i Γ → Good B' H σ ((Γ.set t (.dat (.int (i : Int)))).set u (.dat (.str ⟨#[z.cps[i]?.getD 0]⟩))) → RSs X body (Turned X D rest J B' i) σ H)
    (hd : ∀ B', Same B B' → ∀ Γ σ H, J z.cps.size Γ → Good B' H σ Γ → RSs X rest D σ H) (hg : Gl X "enumerate") (hm : X.mg "enumerate" = none) (G : Good B H σ Γ := by assumption)
    (nd : X.N.Nodup := by assumption) (hc : X.calm = true := by rfl) (hi : X.N[t]? = some x := by rfl) (hx : Loc X.env.scope x := by first | exact Or.inl rfl | exact Or.inr rfl) (hf : X.fn x = true ∨ X.env.scope.names.lookup x = some .local := by first | exact .inl rfl | exact .inr rfl)
    (hj : X.N[u]? = some y := by rfl) (hy : Loc X.env.scope y := by first | exact Or.inl rfl | exact Or.inr rfl) (hf2 : X.fn y = true ∨ X.env.scope.names.lookup y = some .local := by first | exact .inl rfl | exact .inr rfl)
    (h1 : (assignEach [.Name x px, .Name y py] X.env).length = 2 := by rfl) (h2 : (assignEach [.Name x px, .Name y py] X.env).findIdx? (·.1) = none := by rfl)
    (h3 : (assignEach [.Name x px, .Name y py] X.env).map (·.2) = assign (.Name x px) X.env :: (assignEach [.Name y py] X.env).map (·.2) := by rfl) (h4 : (assignEach [.Name y py] X.env).map (·.2) = assign (.Name y py) X.env :: (assignEach [] X.env).map (·.2) := by rfl)
    (hp : PassesOwn (model X.prog X.w) X.A X.env X.xe := by exact PassesOwn.never) (hst : starEach [a] X.env = [(false, eval a X.env)] := by rfl) (hs : ∀ x, foldedSetIterable (.Call (.Name "enumerate" p1) [a] [] p2) X.env x = pure x := by intro _; rfl) :
    RSs X (.For (.Tuple [.Name x px, .Name y py] kt tpos) (.Call (.Name "enumerate" p1) [a] [] p2) body [] pos :: rest) D σ H := by
  refine rss_for20 (n := z.cps.size) (fd := fun i => .int (i : Nat)) (gd := fun i => .str ⟨#[z.cps[i]?.getD 0]⟩) (Gp := fun _ => True) (f := fun _ => none) (g := fun _ => none) (J0 := Itr 0 0) t u (pi_enumS hg hm ra_pa hst) (fun R k => (ea_d ha ea_0 (by rw [hst]; rfl)).1 H (Same.refl _) _ fun vs H1 s1 r => ?_)
    (fun R R' k h => ra_imp h fun vs H1 ⟨z, e1, r⟩ => ⟨z, e1, k _ _ r⟩) J h0 (fun B' s i Γ σ H hi => st B' s i Γ σ H hi) hd G nd hc hi hx hf hj hy hf2 h1 h2 h3 h4 hp hs
  obtain ⟨v, rfl, hv⟩ := pd1 r
  refine ⟨z, by rw [Im.ofStr hv], k _ _ _ _ _ _ s1 rfl walk_enumS fun B' hB => ⟨fun H' sB => trivial, fun i hi => ?_⟩⟩
  have e : z.cps[i]? = some z.cps[i] := Array.getElem?_eq_getElem hi
  exact ⟨_, _, rfl, by show (z.cps[i]?).map _ = _; rw [e]; rfl, im_int _, by rw [e]; exact im_str _⟩
/-- for x, y in zip(a tuple, a tuple) -/
theorem rss_zipT {px py : Pos} {kt : Nat} (t u : Nat) (ha : ED X a σ H (.tuple ds)) (hb : ED X b σ H (.tuple es)) (hle : es.length = ds.length) (J : Nat → List Sl → Prop) (h0 : J 0 Γ)
    (st : ∀ B', Same B B' → ∀ (i : Nat) Γ σ H (hi : i < ds.length), J i Γ → Good B' H σ ((Γ.set t (.dat (ds[i]?.getD .none))).set u (.dat (es[i]?.getD .none))) → RSs X body (Turned X D rest J B' i) σ H)
    (hd : ∀ B', Same B B' → ∀ Γ σ H, J ds.length Γ → Good B' H σ Γ → RSs X rest D σ H) (hg : Gl X "zip") (hm : X.mg "zip" = none) (G : Good B H σ Γ := by assumption)
    (nd : X.N.Nodup := by assumption) (hc : X.calm = true := by rfl) (hi : X.N[t]? = some x := by rfl) (hx : Loc X.env.scope x := by first | exact Or.inl rfl | exact Or.inr rfl) (hf : X.fn x = true ∨ X.env.scope.names.lookup x = some .local := by first | exact .inl rfl | exact .inr rfl)
    (hj : X.N[u]? = some y := by rfl) (hy : Loc X.env.scope y := by first | exact Or.inl rfl | exact Or.inr rfl) (hf2 : X.fn y = true ∨ X.env.scope.names.lookup y = some .local := by first | exact .inl rfl | exact .inr rfl)
    (h1 : (assignEach [.Name x px, .Name y py] X.env).length = 2 := by rfl) (h2 : (assignEach [.Name x px, .Name y py] X.env).findIdx? (·.1) = none := by rfl)
    (h3 : (assignEach [.Name x px, .Name y py] X.env).map (·.2) = assign (.Name x px) X.env :: (assignEach [.Name y py] X.env).map (·.2) := by rfl) (h4 : (assignEach [.Name y py] X.env).map (·.2) = assign (.Name y py) X.env :: (assignEach [] X.env).map (·.2) := by rfl)
    (hp : PassesOwn (model X.prog X.w) X.A X.env X.xe := by exact PassesOwn.never) (q1 : starEach [a, b] X.env = (false, eval a X.env) :: starEach [b] X.env := by rfl) (q2 : starEach [b] X.env = (false, eval b X.env) :: starEach [] X.env := by rfl)
    (pi : PI X (.Tuple [.Name x px, .Name y py] kt tpos) (.Call (.Name "zip" p1) [a, b] [] p2) (RZ.iZipA X.K (RA X [a, b])) := by exact RZ.pi_zipA (by rfl) (by assumption) ra_pa) (hs : ∀ x, foldedSetIterable (.Call (.Name "zip" p1) [a, b] [] p2) X.env x = pure x := by intro _; rfl) :
    RSs X (.For (.Tuple [.Name x px, .Name y py] kt tpos) (.Call (.Name "zip" p1) [a, b] [] p2) body [] pos :: rest) D σ H := by
  refine rss_for20 (n := ds.length) (fd := fun i => ds[i]?.getD .none) (gd := fun i => es[i]?.getD .none) (Gp := fun _ => True) (f := fun _ => none) (g := fun _ => none) (J0 := Itr 0 0) t u pi (fun R k => (ea_d ha (ea_d hb ea_0 q2) q1).1 H (Same.refl _) _ fun vs H1 s1 r => ?_)
    (fun R R' k h => ra_imp h fun vs H1 ⟨l, m, xs, ys, e1, r⟩ => ⟨l, m, xs, ys, e1, r.elim (fun z => .inl ⟨z.1, z.2.1, k _ _ z.2.2⟩) fun z => .inr ⟨z.1, z.2.1, k _ _ z.2.2⟩⟩) J h0 (fun B' s i Γ σ H hi => st B' s i Γ σ H hi) hd G nd hc hi hx hf hj hy hf2 h1 h2 h3 h4 hp hs
  obtain ⟨v, w, rfl, hv, hw⟩ := pd2 r
  obtain ⟨l, vs, rfl, q1, q2⟩ := Im.ofTup hv
  obtain ⟨m, ws, rfl, r1, r2⟩ := Im.ofTup hw
  have hl := q2.length
  have hl2 := r2.length
  refine ⟨l, m, vs, ws, rfl, .inr ⟨SqT.of q1, SqT.of r1, k _ _ _ _ _ _ s1 (by omega) (walk_zipT (xs := vs) (ys := ws) rfl) fun B' hB => ⟨fun H' sB => ⟨SqT.of (sB _ _ (hB l _ q1 vs rfl)), SqT.of (sB _ _ (hB m _ r1 ws rfl))⟩, fun i hi => ?_⟩⟩⟩
  have tk : Tk H1 B' := fun a xs e => hB a _ e xs rfl
  obtain ⟨w', e1, q3⟩ := (q2.mono tk).get (List.getElem?_eq_getElem hi)
  obtain ⟨w2, e2, q4⟩ := (r2.mono tk).get (List.getElem?_eq_getElem (show i < es.length by omega))
  exact ⟨w', w2, e1, e2, by rw [List.getElem?_eq_getElem hi]; exact q3, by rw [List.getElem?_eq_getElem (show i < es.length by omega)]; exact q4⟩

/-! ### while -/
theorem rss_while (J : Nat → List Sl → Prop) (n : Nat) (h0 : J n Γ)
    (st : ∀ B', Same B B' → ∀ n Γ σ H, J n Γ → Good B' H σ Γ → ∃ k : Bool, ET X c σ H k ∧ (k = true → ∀ H', Good B' H' σ Γ → RSs X body { D with nx := fun σ H => ∃ m Γ, m < n ∧ J m Γ ∧ Good B' H σ Γ, ct := fun σ H => ∃ m Γ, m < n ∧ J m Γ ∧ Good B' H σ Γ, bk := fun σ H => RSs X rest D σ H } σ H') ∧ (k = false → ∀ H', Good B' H' σ Γ → RSs X rest D σ H'))
    (G : Good B H σ Γ := by assumption) (hp : PassesOwn (model X.prog X.w) X.A X.env X.xe := by exact PassesOwn.never) : RSs X (.While c body [] pos :: rest) D σ H := by
  obtain ⟨B', sB, G', hB⟩ := G.rebase
  refine rss_cons (RS.of (ps_while hp rt_pt rss_pss) ⟨fun n σ H => ∃ Γ, J n Γ ∧ Good B' H σ Γ, ⟨n, Γ, h0, G'⟩, fun n σ H ⟨Γ, j, g⟩ => ?_⟩)
  obtain ⟨k, hc, h1, h2⟩ := st B' sB n Γ σ H j g
  refine hc H (Same.refl _) _ fun H1 s1 => ?_
  cases k with
  | true => exact iteT ⟨fun σ H => ∃ m Γ, m < n ∧ J m Γ ∧ Good B' H σ Γ, fun σ' H' ⟨m, Γ', hm, j', g'⟩ => ⟨m, hm, Γ', j', g'⟩, h1 rfl H1 (g.mono s1)⟩
  | false => exact iteF (h2 rfl H1 (g.mono s1))
end
end Dw
/-! Dw: defs, their calls; comprehensions -/
namespace Dw
open PySem PySem.Spec PyProof.Rows L2
/-- the module at hand -/
structure Md where
  P : Program
  w : World
  K : PySem.W.Frag
  mg : Str → Option Value
  base : Heap
structure Rt where
  cdv : Value
  A : Around
  outer : List Env
  s : Shared
  H : Hp
  E : XK
/-- a def's body running; nothing is raised out of it -/
def cxD (m : Md) (N : List Str) (qual : Str) (st : Stmt) (f : Addr) (r : Rt) : Cx := (cxOf CX0 m.P m.w m.K m.mg m.base N qual (defScope st) f r.cdv r.A r.outer r.s r.H r.E).nox
def mdOf (X : Cx) : Md := ⟨X.prog, X.w, X.K, X.mg, X.base⟩
/-- an argument as the callee sees it -/
def ArgOk (H : Hp) (sl : Sl) (v : V) : Prop := sl.own = false ∧ SlOk H H (some v) sl
/-- a promise by data: φ arguments result -/
def SpS (φ : List Sl → Sl → Prop) : Sp := fun vs H Q _ => ∃ ss r, Paired (ArgOk H) ss vs ∧ φ ss r ∧ ∀ v H', Same H H' → SlOk H H' (some v) r → Q v H'
/-- a def of the module that keeps such a promise -/
structure Kn (m : Md) (x : Str) (ps : List Str) (k : Nat) (φ : List Sl → Sl → Prop) : Prop where
  ex : ∃ (f : Addr) (fd : FuncData), FnOk m.P m.w m.K m.mg m.base CX0 k f fd ps (SpS φ) ∧ m.mg x = some (.ref f) ∧ PySem.W.keepIn m.K (.ref f) = true ∧ Binds m.K fd ps []
theorem start_good {H : Hp} {N : List Str} {ss : List Sl} {vs : List V} (hl : ss.length ≤ N.length) (h : Paired (ArgOk H) ss vs) : Good H H (L2.start N vs) (ss ++ List.replicate (N.length - ss.length) .un) := by
  have len := Paired.length h
  have own : ∀ (i : Nat) (sl : Sl), (ss ++ List.replicate (N.length - ss.length) .un)[i]? = some sl → sl.own = false := fun i sl e => by
    by_cases c : i < ss.length
    · rw [List.getElem?_append_left c] at e
      obtain ⟨v, _, q⟩ := Paired.getP h e
      exact q.1
    · rw [List.getElem?_append_right (by omega)] at e
      have e2 := List.eq_of_mem_replicate (List.mem_of_getElem? e)
      rw [e2]
      rfl
  refine ⟨Same.refl H, by simp [L2.start]; omega, fun i sl o e1 e2 => ?_, fun i j si sj l _ e1 _ o1 _ _ _ => ?_⟩
  · by_cases c : i < ss.length
    · rw [List.getElem?_append_left c] at e1
      obtain ⟨v, e3, q⟩ := Paired.getP h e1
      have e4 : (L2.start N vs)[i]? = some (some v) := by
        unfold L2.start
        rw [List.getElem?_append_left (by simp; omega), List.getElem?_map, e3]
        rfl
      rw [e4] at e2
      cases e2
      exact q.2
    · rw [List.getElem?_append_right (by omega)] at e1
      have e2 := List.eq_of_mem_replicate (List.mem_of_getElem? e1)
      rw [e2]
      trivial
  · rw [own i si e1] at o1
    cases o1
/-- THE RULE for a def -/
theorem okS {m : Md} {x qual : Str} {st : Stmt} {f : Addr} {fd : FuncData} {N ps : List Str} {k : Nat} {φ : List Sl → Sl → Prop} (F : Fun m.K x qual st f fd) (S : FnScope N ps (defScope st)) (hl : ∀ ss r, φ ss r → ss.length = ps.length)
    (body : ∀ (rt : Rt) (ss : List Sl) (r : Sl) (H : Hp) (σ : L2.St), φ ss r → Room k (cxD m N qual st f rt).A → (cxD m N qual st f rt).N.Nodup → Good H H σ (ss ++ List.replicate (N.length - ss.length) .un) → RSs (cxD m N qual st f rt) (defBody st) (Dr H r) σ H) : FnOk m.P m.w m.K m.mg m.base CX0 (k + 1) f fd ps (SpS φ) := by
  have hle : ps.length ≤ N.length := by
    have e := congrArg List.length S.pre
    rw [List.length_take] at e
    omega
  refine F.ok S (fun vs H Q E ⟨ss, r, h1, h2, _⟩ => by rw [← Paired.length h1]; exact hl ss r h2) fun cdv A outer s H vs Q E hr ⟨ss, r, h1, h2, h3⟩ => ?_
  have q := body ⟨cdv, A, outer, s, H, E⟩ ss r H (L2.start N vs) h2 hr S.nd (start_good (by rw [hl ss r h2]; exact hle) h1)
  exact ⟨RSs (cxD m N qual st f ⟨cdv, A, outer, s, H, E⟩) (defBody st), rss_pss, q.imp (fun σ H' ⟨s1, q1⟩ => h3 _ _ s1 q1) (fun v H' ⟨s1, q1⟩ => h3 _ _ s1 q1) (fun _ _ z => z.elim) (fun _ _ z => z.elim)⟩

/-! ### calls -/
section
variable {X : Cx} {B B0 H : Hp} {σ : L2.St} {Γ : List Sl} {a b c e iter tg elt : Expr} {pos p p1 p2 p3 tpos : Pos} {d : PyData} {ds es : List PyData} {i j : Int} {x y z : Str} {R R' : VR} {rest body orelse : List Stmt} {D : Ends} {φ : List Sl → Sl → Prop} {ps : List Str} {k k' : Nat} {args : List Expr} {ss : List Sl} {r : Sl}
/-- arguments told by kinds -/
def AS (X : Cx) (es : List Expr) (σ : L2.St) (H : Hp) (ss : List Sl) : Prop := ∃ Rs : List VR, (EA X es σ H Rs ∧ ∀ R ∈ Rs, Stable R) ∧ ∀ H1 H2 vs, Paired (fun (R : VR) v => R H1 H2 v) Rs vs → Paired (ArgOk H2) ss vs
theorem as_0 : AS X [] σ H [] := ⟨[], ea_0, fun H1 H2 vs h => by cases h; exact .nil⟩
theorem as_d {es : List Expr} (h : ED X e σ H d) (hs : AS X es σ H ss) (hst : starEach (e :: es) X.env = (false, eval e X.env) :: starEach es X.env := by rfl) : AS X (e :: es) σ H (.dat d :: ss) := by
  obtain ⟨Rs, h1, h2⟩ := hs
  refine ⟨_, ea_d h h1 hst, fun H1 H2 vs q => ?_⟩
  cases q with
  | cons q qs => exact .cons ⟨rfl, _, rfl, q⟩ (h2 _ _ _ qs)
theorem as_r {es : List Expr} (h : ER X e σ H ds) (hs : AS X es σ H ss) (hst : starEach (e :: es) X.env = (false, eval e X.env) :: starEach es X.env := by rfl) : AS X (e :: es) σ H (.rls ds :: ss) := by
  obtain ⟨Rs, h1, h2⟩ := hs
  refine ⟨_, ea_r h h1 hst, fun H1 H2 vs q => ?_⟩
  cases q with
  | cons q qs =>
    obtain ⟨l, vs, e1, e2, e3⟩ := q
    exact .cons ⟨rfl, l, vs, by rw [e1], e2, e3⟩ (h2 _ _ _ qs)
theorem as_x {es : List Expr} {u : V} (h : EX X e σ H u) (hs : AS X es σ H ss) (hst : starEach (e :: es) X.env = (false, eval e X.env) :: starEach es X.env := by rfl) : AS X (e :: es) σ H (.raw u :: ss) := by
  obtain ⟨Rs, h1, h2⟩ := hs
  refine ⟨_, ea_x h h1 hst, fun H1 H2 vs q => ?_⟩
  cases q with
  | cons q qs => exact .cons ⟨rfl, by rw [q]; rfl⟩ (h2 _ _ _ qs)
theorem ev_call {es : List Expr} (F : Kn (mdOf X) x ps k φ) (ha : AS X (e :: es) σ H ss) (hφ : φ ss r) (hR : ∀ H1 H2 H3 v, Same H1 H2 → SlOk H2 H3 (some v) r → R H1 H3 v) (hr : Room k X.A) (hg : Gl X x)
    (hdb : (x == ("__debug__" : Str)) = false) (he : starEach (e :: es) X.env = (false, eval e X.env) :: starEach es X.env) (hpl : (backTo pos (starEach es X.env)).any (·.1) = false) : EV X (.Call (.Name x p) (e :: es) [] pos) σ H R := by
  obtain ⟨f, fd, h1, h2, h3, h4⟩ := F.ex
  obtain ⟨Rs, h5, h6⟩ := ha
  refine ev_pe (pe_call (CX := CX0) (E := E0) h1 hr hg h2 h3 h4 .nil pass0 ra_pa hdb he hpl) fun H1 s1 Q q => h5.1 H1 s1 _ fun vs H2 s2 k => ?_
  rw [List.append_nil]
  exact ⟨ss, r, h6 _ _ _ k, hφ, fun v H' s3 w => q v H' (s2.trans s3) (hR _ _ _ _ s2 w)⟩
theorem ed_call {es : List Expr} (F : Kn (mdOf X) x ps k φ) (ha : AS X (e :: es) σ H ss) (hφ : φ ss (.dat d)) (hr : Room k' X.A := by assumption) (hk : k ≤ k' := by decide) (hg : Gl X x := by rfl)
    (hdb : (x == ("__debug__" : Str)) = false := by decide) (he : starEach (e :: es) X.env = (false, eval e X.env) :: starEach es X.env := by rfl) (hpl : (backTo pos (starEach es X.env)).any (·.1) = false := by rfl) : ED X (.Call (.Name x p) (e :: es) [] pos) σ H d :=
  ev_call F ha hφ (fun H1 H2 H3 v _ ⟨u, e1, q⟩ => by cases e1; exact q) (hr.mono hk) hg hdb he hpl
theorem en_call {es : List Expr} (F : Kn (mdOf X) x ps k φ) (ha : AS X (e :: es) σ H ss) (hφ : φ ss (.lst ds)) (hr : Room k' X.A := by assumption) (hk : k ≤ k' := by decide) (hg : Gl X x := by rfl)
    (hdb : (x == ("__debug__" : Str)) = false := by decide) (he : starEach (e :: es) X.env = (false, eval e X.env) :: starEach es X.env := by rfl) (hpl : (backTo pos (starEach es X.env)).any (·.1) = false := by rfl) : EN X (.Call (.Name x p) (e :: es) [] pos) σ H ds :=
  ev_call F ha hφ (fun H1 H2 H3 v s ⟨l, vs, e1, e2, e3, q⟩ => ⟨l, vs, by cases e1; rfl, s.free e2, e3, q⟩) (hr.mono hk) hg hdb he hpl

/-! ### comprehensions -/
/-- a comprehension's run, as a value or as what a name takes -/
def LC (X : Cx) (elt tg iter : Expr) (ifs : List Expr) (scope : Scope) (own : List (Str × Nat)) (σ : L2.St) (H : Hp) (Q : VK) : Prop := ∃ (wi : TI) (g : TG) (tt : TT) (te : TE), PI X tg iter wi ∧ BlkOk X.N X.env.scope scope own ∧
  (∀ (s : Shared) (H : Hp) (C : Addr) (cl : List (Str × Addr)) (fp : List Addr), PG (X.blk s H scope (compEnvC scope cl C X.env) fp) tg g) ∧ (∀ (s : Shared) (H : Hp) (C : Addr) (cl : List (Str × Addr)) (fp : List Addr), PTs (X.blk s H scope (compEnvC scope cl C X.env) fp) ifs tt) ∧
  (∀ (s : Shared) (H : Hp) (C : Addr) (cl : List (Str × Addr)) (fp : List Addr), PE (X.blk s H scope (compEnvC scope cl C X.env) fp) elt te) ∧ (∀ x, foldedSetIterable iter X.env x = pure x) ∧ tLc wi g tt te (own.map (·.2)) σ H Q
theorem re_lc {ifs : List Expr} {scope : Scope} {own : List (Str × Nat)} {Q : VK} (h : LC X elt tg iter ifs scope own σ H Q) (nd : X.N.Nodup) (hc : X.calm = true) : RE X (.ListComp elt [⟨tg, iter, ifs, 0⟩] scope pos) σ H Q := by
  obtain ⟨wi, g, tt, te, h1, h2, h3, h4, h5, h6, h7⟩ := h
  exact RE.of (pe_lc hc nd h1 h2 h3 h4 h5 h6) h7
/-- name = [..] -/
theorem rss_setLc0 {ifs : List Expr} {scope : Scope} {own : List (Str × Nat)} {n : Nat} (h : LC X elt tg iter ifs scope own σ H (fun x H1 => RSs X rest D (σ.set n (some x)) H1)) (nd : X.N.Nodup := by assumption) (hc : X.calm = true := by rfl) (hi : X.N[n]? = some x := by rfl) (hx : X.env.scope.names.lookup x = some .local := by rfl)
    (hsw : swapsWith (.ListComp elt [⟨tg, iter, ifs, 0⟩] scope p2) (some (.Name x p)) pos.line X.env = pure true := by first | rfl | exact sw_true (by rfl) (by rfl) (by rfl) (by decide +kernel)) : RSs X (.Assign [.Name x p] (.ListComp elt [⟨tg, iter, ifs, 0⟩] scope p2) pos :: rest) D σ H := by
  obtain ⟨wi, g, tt, te, h1, h2, h3, h4, h5, h6, h7⟩ := h
  exact rss_cons (RS.of (ps_setLc hc nd hi hx hsw h1 h2 h3 h4 h5 h6) h7)
/-- a new list of data, and what stands stays -/
def ENc (X : Cx) (elt tg iter : Expr) (ifs : List Expr) (scope : Scope) (own : List (Str × Nat)) (σ : L2.St) (H : Hp) (ds : List PyData) : Prop := ∀ H1, Same H H1 → ∀ Q : VK, (∀ v H2, Same H1 H2 → rN ds H1 H2 v → Q v H2) → LC X elt tg iter ifs scope own σ H1 Q
theorem ENc.en {ifs : List Expr} {scope : Scope} {own : List (Str × Nat)} (h : ENc X elt tg iter ifs scope own σ H ds) (nd : X.N.Nodup := by assumption) (hc : X.calm = true := by rfl) : EN X (.ListComp elt [⟨tg, iter, ifs, 0⟩] scope pos) σ H ds := fun H1 s1 Q q => re_lc (h H1 s1 Q q) nd hc
theorem ENc.to {ifs : List Expr} {scope : Scope} {own : List (Str × Nat)} (h : ENc X elt tg iter ifs scope own σ H ds) (e : ds = es) : ENc X elt tg iter ifs scope own σ H es := e ▸ h
theorem rss_setLc {ifs : List Expr} {scope : Scope} {own : List (Str × Nat)} (n : Nat) (h : ENc X elt tg iter ifs scope own σ H ds) (k : ∀ σ' H', Good B H' σ' (Γ.set n (.lst ds)) → RSs X rest D σ' H') (G : Good B H σ Γ := by assumption) (nd : X.N.Nodup := by assumption) (hc : X.calm = true := by rfl) (hi : X.N[n]? = some x := by rfl) (hx : X.env.scope.names.lookup x = some .local := by rfl)
    (hsw : swapsWith (.ListComp elt [⟨tg, iter, ifs, 0⟩] scope p2) (some (.Name x p)) pos.line X.env = pure true := by first | rfl | exact sw_true (by rfl) (by rfl) (by rfl) (by decide +kernel)) : RSs X (.Assign [.Name x p] (.ListComp elt [⟨tg, iter, ifs, 0⟩] scope p2) pos :: rest) D σ H :=
  rss_setLc0 (h H (Same.refl _) _ fun v H2 s r => k _ _ (sets_N _ _ _ _ _ n v G s r)) nd hc hi hx hsw
/-- over any walk of single items -/
theorem lc_ {wi : TI} {scope : Scope} {own : List (Str × Nat)} {n : Nat} {fd out : Nat → PyData} (t : Nat) (pi : PI X (.Name x p1) iter wi)
    (hw : ∀ H1, Same H H1 → ∀ R : It → Hp → Prop, (∀ (J : It) (H2 : Hp) (n' : Nat) (Gp : Hp → Prop) (f : Nat → Option V), Same H1 H2 → n' = n → Walk J n' Gp (fun i H v H' => H' = H ∧ f i = some v) → (∀ H', Same H2 H' → Gp H') → (∀ i, i < n → ∃ v, f i = some v ∧ Im H2 (fd i) v) → R J H2) → wi σ H1 R)
    (mono : ∀ (R R' : It → Hp → Prop) H1, (∀ J H, R J H → R' J H) → wi σ H1 R → wi σ H1 R')
    (G : Good B H σ Γ) (ok : BlkOk X.N X.env.scope scope own)
    (he : ∀ s0 H0 C cl fp i σ' H', i < n → Good B H' σ' ((wipeG Γ (own.map (·.2))).set t (.dat (fd i))) → ED (X.blk s0 H0 scope (compEnvC scope cl C X.env) fp) elt σ' H' (out i))
    (hnt : t ∈ own.map (·.2)) (hz : n ≤ sizeLine) (nd : X.N.Nodup) (hc : X.calm = true)
    (pg : ∀ (s : Shared) (H : Hp) (C : Addr) (cl : List (Str × Addr)) (fp : List Addr), PG (X.blk s H scope (compEnvC scope cl C X.env) fp) (.Name x p1) (gName t))
    (hs : ∀ x, foldedSetIterable iter X.env x = pure x) : ENc X elt (.Name x p1) iter [] scope own σ H ((List.range n).map out) := by
  intro H1 s1 Q q
  refine ⟨wi, gName t, tYes, fun σ H Q => ∀ s0 H0 C cl fp, RE (X.blk s0 H0 scope (compEnvC scope cl C X.env) fp) elt σ H Q, pi, ok, pg, fun _ _ _ _ _ => pts_nil, fun s H C cl fp => ⟨fun pins s' σ H Q I h => h _ _ _ _ _ pins s' I⟩, hs, ?_⟩
  refine mono _ _ H1 (fun J H2 (h : ∀ D, H2 D = none → _) => h) (hw H1 s1 _ fun J H2 n' Gp f s2 en w hG hits D hD => ?_)
  subst en
  have G2 : Good B H2 σ Γ := (G.mono s1).mono s2
  refine lc_it (g := gName t) (tt := tYes) (te := fun σ H Q => ∀ s0 H0 C cl fp, RE (X.blk s0 H0 scope (compEnvC scope cl C X.env) fp) elt σ H Q) (vs := own.map (·.2)) (σ := σ) w (fun i H => Same H2 H ∧ ∃ acc, H D = some (.lst acc) ∧ ImAll H ((List.range i).map out) acc) ⟨Same.new hD, [], upd_same, imAll_nil⟩ (fun i H _ ⟨s3, _⟩ => hG _ s3) (fun i v H H' hi ⟨s3, acc, a1, a2⟩ ⟨eH, ev⟩ => ?_) fun H ⟨s3, acc, a1, a2⟩ => q _ _ (s2.trans s3) ⟨D, acc, rfl, s2.free hD, a1, a2⟩
  subst eH
  obtain ⟨v', e1, q1⟩ := hits i hi
  rw [ev] at e1
  cases e1
  refine ⟨?_, ?_⟩
  · -- the name is one of the block's own
    have : ∀ (l : List Nat) (τ : L2.St) (o : Option V), t ∈ l → wipe ((wipe τ l).set t o) l = wipe τ l := fun l τ o hm => by
      apply List.ext_getElem?
      intro j
      have hin : ∀ (l : List Nat) (τ : L2.St) (j : Nat), (wipe τ l)[j]? = if j ∈ l then (τ[j]?).map (fun _ => none) else τ[j]? := by
        intro l
        induction l with
        | nil => intro τ j; simp [wipe]
        | cons v vs ih =>
          intro τ j
          show ((wipe τ vs).set v none)[j]? = _
          by_cases c : v = j
          · subst c
            rw [List.getElem?_set]
            simp only [if_true, List.mem_cons, true_or]
            rw [wipe_length]
            by_cases hl : v < τ.length
            · rw [if_pos hl, List.getElem?_eq_getElem hl]; rfl
            · rw [if_neg hl, List.getElem?_eq_none (by omega)]; rfl
          · rw [List.getElem?_set_ne c, ih τ j]
            have : (j ∈ v :: vs) ↔ j ∈ vs := by simp [Ne.symm c]
            simp only [this]
      rw [hin, hin]
      by_cases c : j ∈ l
      · simp only [if_pos c]
        by_cases ct : t = j
        · subst ct
          rw [List.getElem?_set]
          simp only [if_true]
          rw [wipe_length]
          by_cases hl : t < τ.length
          · rw [if_pos hl, List.getElem?_eq_getElem hl]; rfl
          · rw [if_neg hl, List.getElem?_eq_none (by omega)] <;> rfl
        · rw [List.getElem?_set_ne ct, hin, if_pos c]
          cases τ[j]? <;> rfl
      · rw [if_neg c, if_neg c]
        have ct : t ≠ j := fun z => c (z ▸ hm)
        rw [List.getElem?_set_ne ct, hin, if_neg c]
    exact this _ _ _ hnt
  · show (∀ s0 H0 C cl fp, RE _ elt _ _ _)
    refine (fun s0 H0 C cl fp => he s0 H0 C cl fp i _ _ hi (((G2.mono s3).wiped _).setD t (q1.mono (Tk.of s3))) _ (Same.refl _) _ fun y H4 s4 hy => ?_)
    refine ⟨acc, s4 _ _ a1, by rw [a2.length, List.length_map, List.length_range]; omega, ?_⟩
    have nt : ∀ xs, H4 D ≠ some (.tup xs) := fun xs z => by rw [s4 _ _ a1] at z; cases z
    refine ⟨fun b o hb => ?_, _, upd_same, ?_⟩
    · rw [upd_ne (ne_of_none hb hD)]
      exact s4 _ _ (s3 _ _ hb)
    · rw [List.range_succ, List.map_append]
      exact ((a2.mono (Tk.of s4)).append (imAll_cons hy imAll_nil)).mono (Tk.upd nt)
/-- [elt for name in range(n)] -/
theorem lc_R {scope : Scope} {own : List (Str × Nat)} {m : Int} {out : Nat → PyData} (t : Nat) (ha : ED X a σ H (.int m)) (h1 : -(2 ^ 62) ≤ m) (h2 : m < 2 ^ 62) (hz : m.toNat ≤ sizeLine) (ok : BlkOk X.N X.env.scope scope own)
    (he : ∀ s0 H0 C cl fp (i : Nat) σ' H', i < m.toNat → Good B H' σ' ((wipeG Γ (own.map (·.2))).set t (.dat (.int (i : Int)))) → ED (X.blk s0 H0 scope (compEnvC scope cl C X.env) fp) elt σ' H' (out i))
    (hm : X.mg "range" = none) (G : Good B H σ Γ := by assumption) (hg : Gl X "range" := by rfl) (nd : X.N.Nodup := by assumption) (hc : X.calm = true := by rfl) (hnt : t ∈ own.map (·.2) := by decide)
    (hi : X.N[t]? = some x := by rfl) (hx : ∀ (cl : List (Str × Addr)) (C : Addr), Loc (compEnvC scope cl C X.env).scope x := by first | exact fun _ _ => Or.inl rfl | exact fun _ _ => Or.inr rfl) (hf : ∀ (cl : List (Str × Addr)) (C : Addr), (scope.names.lookup x == some .cell) = true ∨ (compEnvC scope cl C X.env).scope.names.lookup x = some .local := by first | exact fun _ _ => .inr rfl | exact fun _ _ => .inl rfl)
    (hst : starEach [a] X.env = [(false, eval a X.env)] := by rfl) (hs : ∀ x, foldedSetIterable (.Call (.Name "range" p2) [a] [] p3) X.env x = pure x := by intro _; rfl) : ENc X elt (.Name x p1) (.Call (.Name "range" p2) [a] [] p3) [] scope own σ H ((List.range m.toNat).map out) :=
  lc_ (fd := fun i => .int (i : Int)) t (pi_range1 hg hm ra_pa hst) (fun H1 s1 R k => (ea_d ha ea_0 (by rw [hst]; rfl)).1 H1 s1 _ fun vs H2 s2 r => by
      obtain ⟨v, rfl, hv⟩ := pd1 r
      exact ⟨m, by rw [Im.ofInt hv], h1, h2, k _ H2 m.toNat (fun _ => True) (fun i => some (.int (i : Int))) s2 rfl ((walk_range (lo := 0) (n := m.toNat)).mono (fun _ h => h) fun i H x H' _ _ ⟨e1, e2⟩ => ⟨e1, by rw [e2]; show some (V.int (i : Int)) = some (V.int (0 + (i : Int))); rw [Int.zero_add]⟩) (fun _ _ => trivial) fun i _ => ⟨_, rfl, im_int _⟩⟩)
    (fun R R' H1 k h => ra_imp h fun vs H1 ⟨j, e1, q1, q2, r⟩ => ⟨j, e1, q1, q2, k _ _ r⟩) G ok he hnt hz nd hc (fun _ _ C cl _ => pg_name nd hi (hx cl C) (hf cl C)) hs
/-- [elt for name in range(l, m)] -/
theorem lc_R2 {scope : Scope} {own : List (Str × Nat)} {l m : Int} {out : Nat → PyData} (t : Nat) (ha : ED X a σ H (.int l)) (hb : ED X b σ H (.int m)) (h1 : -(2 ^ 62) ≤ l ∧ l < 2 ^ 62 ∧ -(2 ^ 62) ≤ m ∧ m < 2 ^ 62) (hz : (m - l).toNat ≤ sizeLine) (ok : BlkOk X.N X.env.scope scope own)
    (he : ∀ s0 H0 C cl fp (i : Nat) σ' H', i < (m - l).toNat → Good B H' σ' ((wipeG Γ (own.map (·.2))).set t (.dat (.int (l + (i : Int))))) → ED (X.blk s0 H0 scope (compEnvC scope cl C X.env) fp) elt σ' H' (out i))
    (hm : X.mg "range" = none) (G : Good B H σ Γ := by assumption) (hg : Gl X "range" := by rfl) (nd : X.N.Nodup := by assumption) (hc : X.calm = true := by rfl) (hnt : t ∈ own.map (·.2) := by decide)
    (hi : X.N[t]? = some x := by rfl) (hx : ∀ (cl : List (Str × Addr)) (C : Addr), Loc (compEnvC scope cl C X.env).scope x := by first | exact fun _ _ => Or.inl rfl | exact fun _ _ => Or.inr rfl) (hf : ∀ (cl : List (Str × Addr)) (C : Addr), (scope.names.lookup x == some .cell) = true ∨ (compEnvC scope cl C X.env).scope.names.lookup x = some .local := by first | exact fun _ _ => .inr rfl | exact fun _ _ => .inl rfl)
    (hst : starEach [a, b] X.env = [(false, eval a X.env), (false, eval b X.env)] := by rfl) (hst2 : starEach [b] X.env = [(false, eval b X.env)] := by rfl) (hs : ∀ x, foldedSetIterable (.Call (.Name "range" p2) [a, b] [] p3) X.env x = pure x := by intro _; rfl) : ENc X elt (.Name x p1) (.Call (.Name "range" p2) [a, b] [] p3) [] scope own σ H ((List.range (m - l).toNat).map out) :=
  lc_ (fd := fun i => .int (l + (i : Int))) t (pi_range2 hg hm ra_pa hst hst2) (fun H1 s1 R k => (ea_d ha (ea_d hb ea_0 (by rw [hst2]; rfl)) (by rw [hst, hst2])).1 H1 s1 _ fun vs H2 s2 r => by
      obtain ⟨v, u, rfl, hv, hu⟩ := pd2 r
      exact ⟨l, m, by rw [Im.ofInt hv, Im.ofInt hu], h1, k _ H2 (m - l).toNat (fun _ => True) (fun i => some (.int (l + (i : Int)))) s2 rfl ((walk_range (lo := l) (n := (m - l).toNat)).mono (fun _ h => h) fun i H x H' _ _ ⟨e1, e2⟩ => ⟨e1, by rw [e2]⟩) (fun _ _ => trivial) fun i _ => ⟨_, rfl, im_int _⟩⟩)
    (fun R R' H1 k h => ra_imp h fun vs H1 ⟨i, j, e1, q1, r⟩ => ⟨i, j, e1, q1, k _ _ r⟩) G ok he hnt hz nd hc (fun _ _ C cl _ => pg_name nd hi (hx cl C) (hf cl C)) hs
/-- [elt for name in a text] -/
theorem lc_S {scope : Scope} {own : List (Str × Nat)} {out : Nat → PyData} (t : Nat) (ha : ED X a σ H (.str z)) (hz : z.cps.size ≤ sizeLine) (ok : BlkOk X.N X.env.scope scope own)
    (he : ∀ s0 H0 C cl fp (i : Nat) σ' H', i < z.cps.size → Good B H' σ' ((wipeG Γ (own.map (·.2))).set t (.dat (.str ⟨#[z.cps[i]?.getD 0]⟩))) → ED (X.blk s0 H0 scope (compEnvC scope cl C X.env) fp) elt σ' H' (out i))
    (G : Good B H σ Γ := by assumption) (nd : X.N.Nodup := by assumption) (hc : X.calm = true := by rfl) (hnt : t ∈ own.map (·.2) := by decide)
    (hi : X.N[t]? = some x := by rfl) (hx : ∀ (cl : List (Str × Addr)) (C : Addr), Loc (compEnvC scope cl C X.env).scope x := by first | exact fun _ _ => Or.inl rfl | exact fun _ _ => Or.inr rfl) (hf : ∀ (cl : List (Str × Addr)) (C : Addr), (scope.names.lookup x == some .cell) = true ∨ (compEnvC scope cl C X.env).scope.names.lookup x = some .local := by first | exact fun _ _ => .inr rfl | exact fun _ _ => .inl rfl)
    (hs : ∀ x, foldedSetIterable a X.env x = pure x := by intro _; rfl) : ENc X elt (.Name x p1) (a) [] scope own σ H ((List.range z.cps.size).map out) :=
  lc_ (fd := fun i => .str ⟨#[z.cps[i]?.getD 0]⟩) t (pi_str re_pe) (fun H1 s1 R k => ha H1 s1 _ fun v H2 s2 hv => by
      refine ⟨z, Im.ofStr hv, k _ H2 z.cps.size (fun _ => True) (fun i => z.cps[i]?.map fun c => .str ⟨#[c]⟩) s2 rfl (walk_str.mono (fun _ h => h) fun i H x H' _ _ ⟨e1, c, e2, e3⟩ => ⟨e1, by show (z.cps[i]?).map _ = _; rw [e2, e3]; rfl⟩) (fun _ _ => trivial) fun i hi => ?_⟩
      have e : z.cps[i]? = some z.cps[i] := Array.getElem?_eq_getElem hi
      exact ⟨_, by show (z.cps[i]?).map _ = _; rw [e]; rfl, by rw [e]; exact im_str _⟩)
    (fun R R' H1 k h => RE.imp h fun v H1 ⟨z, e1, r⟩ => ⟨z, e1, k _ _ r⟩) G ok he hnt hz nd hc (fun _ _ C cl _ => pg_name nd hi (hx cl C) (hf cl C)) hs
/-- [elt for name in a tuple] -/
theorem lc_T {scope : Scope} {own : List (Str × Nat)} {out : Nat → PyData} (t : Nat) (ha : ED X a σ H (.tuple ds)) (hz : ds.length ≤ sizeLine) (ok : BlkOk X.N X.env.scope scope own)
    (he : ∀ s0 H0 C cl fp (i : Nat) σ' H', i < ds.length → Good B H' σ' ((wipeG Γ (own.map (·.2))).set t (.dat (ds[i]?.getD .none))) → ED (X.blk s0 H0 scope (compEnvC scope cl C X.env) fp) elt σ' H' (out i))
    (G : Good B H σ Γ := by assumption) (nd : X.N.Nodup := by assumption) (hc : X.calm = true := by rfl) (hnt : t ∈ own.map (·.2) := by decide)
    (hi : X.N[t]? = some x := by rfl) (hx : ∀ (cl : List (Str × Addr)) (C : Addr), Loc (compEnvC scope cl C X.env).scope x := by first | exact fun _ _ => Or.inl rfl | exact fun _ _ => Or.inr rfl) (hf : ∀ (cl : List (Str × Addr)) (C : Addr), (scope.names.lookup x == some .cell) = true ∨ (compEnvC scope cl C X.env).scope.names.lookup x = some .local := by first | exact fun _ _ => .inr rfl | exact fun _ _ => .inl rfl)
    (hs : ∀ x, foldedSetIterable a X.env x = pure x := by intro _; rfl) : ENc X elt (.Name x p1) (a) [] scope own σ H ((List.range ds.length).map out) :=
  lc_ (fd := fun i => ds[i]?.getD .none) t (pi_tup re_pe) (fun H1 s1 R k => ha H1 s1 _ fun v H2 s2 hv => by
      obtain ⟨l, vs, e1, q1, q2⟩ := Im.ofTup hv
      refine ⟨l, e1, ⟨vs, SqT.of q1⟩, k _ H2 vs.length (fun H => SqT X.K H l vs) (fun i => vs[i]?) s2 q2.length (walk_tup.mono (fun _ h => h) fun i H x H' _ _ ⟨e1, e2⟩ => ⟨e1, e2⟩) (fun H' s3 => SqT.of (s3 _ _ q1)) fun i hi => ?_⟩
      obtain ⟨w', f1, f2⟩ := q2.get (List.getElem?_eq_getElem hi)
      exact ⟨w', f1, by rw [List.getElem?_eq_getElem hi]; exact f2⟩)
    (fun R R' H1 k h => RE.imp h fun v H1 ⟨a, e1, q, r⟩ => ⟨a, e1, q, k _ _ r⟩) G ok he hnt hz nd hc (fun _ _ C cl _ => pg_name nd hi (hx cl C) (hf cl C)) hs
end
end Dw
/-! Dw: tuple * int for every count -/
namespace Dw
open PySem PySem.Spec PyProof.Rows L2
open AutoSeq1 (wpAny_loadPart')
theorem dw_tuple_mul1 (l : Addr) (items : Array Value) (n : Nat) (dd : Option Addr) (sl : Array (Option Value)) (u : Tok) :
    Meets (Builtin.«tuple.__mul__» ⟨[.ref l, .int 1 u], []⟩) (fun _ R s => s.heap.get? l = some { cls := .type "tuple", dict := dd, data := .seq items n, slots := sl } ∧ R (.ok (.ret (.ref l))) s) :=
  .of_wp fun prog w A R s h => by
    obtain ⟨hp, g, d, tk, os⟩ := s
    obtain ⟨hl, h⟩ := h
    have f1 := AutoSeq1.idx_int
    wp_walk using wpAny_loadPart' hl
    repeat (first
      | (refine wpAny_ite_false (by decide) ?_; wp_walk using wpAny_loadPart' hl)
      | (refine wpAny_ite_true (by simp) ?_; wp_walk using wpAny_loadPart' hl))
    exact ⟨_, rfl, h⟩
theorem dw_tuple_mul0 (l : Addr) (items : Array Value) (n : Nat) (dd : Option Addr) (sl : Array (Option Value)) (u : Tok) (c1 : (items.isEmpty || (0 : Int) == 1) = false) :
    Meets (Builtin.«tuple.__mul__» ⟨[.ref l, .int 0 u], []⟩) (fun _ R s => s.heap.get? l = some { cls := .type "tuple", dict := dd, data := .seq items n, slots := sl } ∧
      R (.ok (.ret (Value.ref s.heap.objs.size))) { s with heap := s.heap.push { cls := Value.type "tuple", data := Data.seq #[] }, toks := s.toks }) :=
  .of_wp fun prog w A R s h => by
    obtain ⟨hp, g, d, tk, os⟩ := s
    obtain ⟨hl, h⟩ := h
    have f1 := AutoSeq1.idx_int
    wp_walk using wpAny_loadPart' hl
    refine wpAny_ite_false (decide_eq_false (by rw [c1]; exact Bool.false_ne_true)) ?_
    wp_walk using wpAny_loadPart' hl
    try (refine wpAny_ite_true (by simp) ?_; wp_walk using wpAny_loadPart' hl)
    exact ⟨_, rfl, h⟩
/-- (d,) * k -/
theorem ed_repT {X : Cx} {σ : L2.St} {H : Hp} {a b : Expr} {pos : Pos} {d : PyData} {k : Int} (ha : ED X a σ H (.tuple [d])) (hb : ED X b σ H (.int k)) (h0 : 0 ≤ k) (h1 : k ≤ 1000) : ED X (.BinOp a .Mult b pos) σ H (.tuple (List.replicate k.toNat d)) := by
  have go : OpR X (binaryOp .Mult) (fun x y H Q => ∃ l xs, x = .ref l ∧ y = .int k ∧ H l = some (.tup xs) ∧ xs.length = 1 ∧ (k = 1 → Q (.ref l) H) ∧ (k ≠ 1 → ∀ p, H p = none → Q (.ref p) (upd H p (.tup (List.replicate k.toNat xs).flatten)))) := by
    intro pins s σ H x y v u Q I rx ry h
    obtain ⟨l, xs, rfl, rfl, hT, hl, q1, q2⟩ := h
    by_cases c2 : 2 ≤ k
    · exact op_repT pins s σ H _ _ v u Q I rx ry ⟨l, k, xs, rfl, rfl, SqT.of hT, (fun z => by rw [z] at hl; cases hl), c2, h1, by omega, q2 (by omega)⟩
    · cases rx
      obtain ⟨t, rfl⟩ := ry
      obtain ⟨its, r, ⟨⟨cls, dd, data, sl⟩, ho, hc, n, hd⟩, hs⟩ := I.tuple (SqT.of hT)
      simp only at hc hd
      subst hc hd
      have hle : its.length = 1 := by rw [← r.length]; exact hl
      have hi : its.toArray.isEmpty = false := by
        cases its with
        | nil => cases hle
        | cons a b => rfl
      by_cases c1 : k = 1
      · subst c1
        refine wpAny_binaryOp_repeat_ref (T := "tuple") (U := "int") (by decide) ⟨_, ho, rfl⟩ (fun s' => typeIs_int s' 1 t) noFill_tuple_mul F.fills_int_mul F.slot_int_rmul repeat_tuple F.slot_int_index.lookup
          (call_meets F.slot_int_rmul (typeIs_int s 1 t) F.entry_int_rmul (F.args_int_rmul_2 _ _) (int_rmul_tuple 1 t l its.toArray n dd sl)
            ⟨ho, rfl, ⟨_, ho, rfl⟩, call_meets F.slot_tuple_mul ⟨_, ho, rfl⟩ F.entry_tuple_mul (F.args_tuple_mul_2 _ _) (dw_tuple_mul1 l its.toArray n dd sl t) ⟨ho, ?_⟩⟩)
        exact ⟨.ref l, H, I, rfl, q1 rfl⟩
      · have c0 : k = 0 := by omega
        subst c0
        refine wpAny_binaryOp_repeat_ref (T := "tuple") (U := "int") (by decide) ⟨_, ho, rfl⟩ (fun s' => typeIs_int s' 0 t) noFill_tuple_mul F.fills_int_mul F.slot_int_rmul repeat_tuple F.slot_int_index.lookup
          (call_meets F.slot_int_rmul (typeIs_int s 0 t) F.entry_int_rmul (F.args_int_rmul_2 _ _) (int_rmul_tuple 0 t l its.toArray n dd sl)
            ⟨ho, rfl, ⟨_, ho, rfl⟩, call_meets F.slot_tuple_mul ⟨_, ho, rfl⟩ F.entry_tuple_mul (F.args_tuple_mul_2 _ _) (dw_tuple_mul0 l its.toArray n dd sl t (by rw [hi]; rfl)) ⟨ho, ?_⟩⟩)
        exact ⟨.ref s.heap.objs.size, _, I.laid (t' := s.toks) (o := .tup (List.replicate (0 : Int).toNat xs).flatten) (fun b ob q => Heap.get?_push_of_some _ q) (Nat.le_refl _) ⟨Nat.zero_le _, [], .nil, IsTup.new _ _⟩, rfl, q2 c1 _ (I.hok.fresh (Nat.le_refl _))⟩
  refine ed_bin go ha hb fun H x y Q hx hy q => ?_
  obtain ⟨l, xs, rfl, g1, g2⟩ := hx.ofTup
  have hl := g2.length
  refine ⟨l, xs, rfl, hy.ofInt, g1, hl, fun z => q _ H (Same.refl _) ?_, fun _ p hp => q _ _ (Same.new hp) ?_⟩
  · rw [z]
    exact im_tup g1 g2
  · have g3 := (ImAll.rep (n := k.toNat) g2).mono (Tk.of (Same.new (o := .tup (List.replicate k.toNat xs).flatten) hp))
    rw [flatten_rep1] at g3
    exact im_tup upd_same g3
end Dw
/-! Dw: the text by places; what the module holds -/
namespace Dw
open PySem PySem.Spec PyProof.Rows L2
def topS (i : Nat) : Stmt := PySem.Challenge.pw_doorwords_k34_whole_asked_again.main.body.getD i (.Pass ⟨0, 0, 0, 0⟩)
/-- a def of the module as the top leaves it -/
structure Df (m : Md) (x : Str) (st : Stmt) (ps : List Str) : Prop where
  ex : ∃ (f : Addr) (fd : FuncData), Fun m.K x x st f fd ∧ m.mg x = some (.ref f) ∧ Binds m.K fd ps []
theorem knS {m : Md} {x : Str} {st : Stmt} {N ps : List Str} {k : Nat} {φ : List Sl → Sl → Prop} (F : Df m x st ps) (S : FnScope N ps (defScope st)) (hl : ∀ ss r, φ ss r → ss.length = ps.length)
    (body : ∀ (f : Addr) (rt : Rt) (ss : List Sl) (r : Sl) (H : Hp) (σ : L2.St), φ ss r → Room k (cxD m N x st f rt).A → (cxD m N x st f rt).N.Nodup → Good H H σ (ss ++ List.replicate (N.length - ss.length) .un) → RSs (cxD m N x st f rt) (defBody st) (Dr H r) σ H) : Kn m x ps (k + 1) φ := by
  obtain ⟨f, fd, h1, h2, h3⟩ := F.ex
  exact ⟨f, fd, okS h1 S hl (fun rt ss r H σ a b c d => body f rt ss r H σ a b c d), h2, h1.kp, h3⟩
/-- the built-ins' names are free, the constants stand -/
structure Tx (m : Md) : Prop where
  len : m.mg "len" = none
  min : m.mg "min" = none
  max : m.mg "max" = none
  sum : m.mg "sum" = none
  tuple : m.mg "tuple" = none
  list : m.mg "list" = none
  int : m.mg "int" = none
  str : m.mg "str" = none
  sorted : m.mg "sorted" = none
  range : m.mg "range" = none
  enum : m.mg "enumerate" = none
  zip : m.mg "zip" = none
  isi : m.mg "isinstance" = none
  doors : ∃ t, m.mg "DOORS" = some (.str "123456" t)
  halls : ∃ t, m.mg "MOST_HALLS" = some (.int 6 t)
  signs : ∃ t, m.mg "MOST_SIGNS" = some (.int 400 t)
  folk : ∃ t, m.mg "MOST_FOLK" = some (.int 1000000000000000000 t)
  times : ∃ t, m.mg "MOST_TIMES" = some (.int 1000000000000000000 t)
  short : ∃ t, m.mg "MOST_SHORT" = some (.int 8 t)
/-! ### data of the program -/
def rowD (r : List Int) : PyData := .tuple (r.map PyData.int)
def cardD (c : List (List Int)) : PyData := .tuple (c.map rowD)
def txt (w : List Nat) : Str := ⟨(w.map (· + 49)).toArray⟩
theorem txt_list (w : List Nat) : (txt w).cps.toList = w.map (· + 49) := rfl
theorem txt_len (w : List Nat) : (txt w).length = w.length := by show (w.map (· + 49)).toArray.size = _; simp
theorem doors_txt : ("123456" : Str) = txt [0, 1, 2, 3, 4, 5] := by decide +kernel
end Dw
/-! Dw: the mirror, plain functions over lists -/
namespace Dw
open PySem PySem.Spec PyProof.Rows L2
abbrev Card := List (List Int)
def gi (c : Card) (i j : Nat) : Int := (c.getD i []).getD j 0
/-- the rows' lengths -/
structure Shape (h : Nat) (c : Card) : Prop where
  len : c.length = h
  row : ∀ i, i < h → (c.getD i []).length = h - i
def sumI (cr : List Int) (last : Nat) : Nat → Int
  | 0 => 0
  | k + 1 => sumI cr last k + cr.getD (last - k) 0
def bestI (c : Card) (cr : List Int) (last : Nat) : Nat → Int
  | 0 => 0 + gi c last 0
  | k + 1 => min (bestI c cr last k) (sumI cr last (k + 1) + gi c (last - (k + 1)) (k + 1))
def throughM (c : Card) (cr : List Int) : List Int := (List.range cr.length).map fun last => min (bestI c cr last last) (sumI cr last (last + 1))
def behindM (cr went : List Int) : List Int := (List.range cr.length).map fun h => cr.getD h 0 - went.getD h 0 + (if h = 0 then 0 else went.getD (h - 1) 0)
def nothingM (h : Nat) : Card := (List.range h).map fun i => List.replicate (h - i) 0
def openRow (r : List Int) (at_ : Nat) : List Int := r.set at_ (if at_ = 0 then r.getD 0 0 + 1 else min (r.getD at_ 0 + 1) (r.getD (at_ - 1) 0))
def openedM (c : Card) (d : Nat) : Card := (List.range c.length).map fun i => if i ≤ d then openRow (c.getD i []) (d - i) else c.getD i []
def cardM (h : Nat) (w : List Nat) : Card := w.foldl openedM (nothingM h)
def bothM (a b : Card) : Card := (List.range a.length).map fun row => (List.range (a.length - row)).map fun place => lmin ((List.range (place + 1)).map fun seam => gi a row seam + gi b (row + seam) (place - seam))
def powM (found one : Card) (t : Nat) : Card := if h : t = 0 then found else powM (if t % 2 = 1 then bothM found one else found) (bothM one one) (t / 2)
termination_by t
decreasing_by omega
def powerM (one : Card) (t : Nat) : Card := powM (nothingM one.length) one t
def stillM (one : Card) (cr : List Int) (t : Nat) : Bool := decide ((throughM one (behindM cr (throughM (powerM one t) cr))).sum = 0)
def stepL (rows : List Int) (d : Nat) : List Int := if rows.getD d 0 = 0 then rows else (rows.set d (rows.getD d 0 - 1)).set (d + 1) ((rows.set d (rows.getD d 0 - 1)).getD (d + 1) 0 + 1)
def runM (w : List Nat) (cr : List Int) : List Int := (w.foldl stepL (cr ++ [0])).dropLast
/-- rows, went, idle -/
def goneS (s : List Int × List Int × List Int) (d : Nat) : List Int × List Int × List Int :=
  (stepL s.1 d, if s.1.getD d 0 = 0 then s.2.1 else s.2.1.set d (s.2.1.getD d 0 + 1), if s.1.getD d 0 = 0 then s.2.2.set d (s.2.2.getD d 0 + 1) else s.2.2)
def enoughS (s : List Int × List Int) (d : Nat) : List Int × List Int :=
  (s.1.set d (s.1.getD d 0 + 1), s.2.set d (max (s.2.getD d 0) ((s.1.set d (s.1.getD d 0 + 1)).getD d 0 - (if d = 0 then 0 else (s.1.set d (s.1.getD d 0 + 1)).getD (d - 1) 0))))
/-! ### shapes -/
theorem getD_map {α β : Type} {f : α → β} {xs : List α} {i : Nat} {b : β} {a : α} (h : i < xs.length) : (xs.map f).getD i b = f (xs.getD i a) := by
  rw [List.getD_eq_getElem?_getD, List.getD_eq_getElem?_getD, List.getElem?_map, List.getElem?_eq_getElem h]
  rfl
theorem getD_rangeMap {β : Type} {f : Nat → β} {n i : Nat} {b : β} (h : i < n) : ((List.range n).map f).getD i b = f i := by
  rw [List.getD_eq_getElem?_getD, List.getElem?_map, List.getElem?_range h]
  rfl
theorem shape_nothing (h : Nat) : Shape h (nothingM h) := ⟨by simp [nothingM], fun i hi => by rw [nothingM, getD_rangeMap hi, List.length_replicate]⟩
theorem openRow_len (r : List Int) (k : Nat) : (openRow r k).length = r.length := by simp [openRow]
theorem shape_opened {h : Nat} {c : Card} (s : Shape h c) (d : Nat) : Shape h (openedM c d) := by
  refine ⟨by simp [openedM, s.len], fun i hi => ?_⟩
  rw [openedM, getD_rangeMap (by rw [s.len]; exact hi)]
  by_cases hd : i ≤ d
  · rw [if_pos hd, openRow_len]
    exact s.row i hi
  · rw [if_neg hd]
    exact s.row i hi
theorem shape_card {h : Nat} : ∀ (w : List Nat) {c : Card}, Shape h c → Shape h (w.foldl openedM c)
  | [], _, s => s
  | d :: w, c, s => shape_card w (shape_opened s d)
theorem shape_cardM (h : Nat) (w : List Nat) : Shape h (cardM h w) := shape_card w (shape_nothing h)
theorem shape_both {h : Nat} {a b : Card} (s : Shape h a) : Shape h (bothM a b) := by
  refine ⟨by simp [bothM, s.len], fun i hi => ?_⟩
  rw [bothM, getD_rangeMap (by rw [s.len]; exact hi), List.length_map, List.length_range, s.len]
theorem shape_pow {h : Nat} (t : Nat) : ∀ {f o : Card}, Shape h f → Shape h o → Shape h (powM f o t) := by
  induction t using Nat.strongRecOn with
  | ind t ih =>
    intro f o sf so
    unfold powM
    by_cases e : t = 0
    · rw [dif_pos e]; exact sf
    · rw [dif_neg e]
      refine ih (t / 2) (by omega) ?_ (shape_both so)
      by_cases e2 : t % 2 = 1
      · rw [if_pos e2]; exact shape_both sf
      · rw [if_neg e2]; exact sf
theorem shape_power {h : Nat} {o : Card} (s : Shape h o) (t : Nat) : Shape h (powerM o t) := shape_pow t (by rw [s.len]; exact shape_nothing h) s
theorem through_len (c : Card) (cr : List Int) : (throughM c cr).length = cr.length := by simp [throughM]
theorem behind_len (cr went : List Int) : (behindM cr went).length = cr.length := by simp [behindM]
theorem stepL_len (rows : List Int) (d : Nat) : (stepL rows d).length = rows.length := by
  unfold stepL
  split <;> simp
theorem stepF_len (w : List Nat) : ∀ rows : List Int, (w.foldl stepL rows).length = rows.length := by
  induction w with
  | nil => intro rows; rfl
  | cons d w ih => intro rows; rw [List.foldl_cons, ih, stepL_len]
end Dw
/-! Dw: the rules at the program's own data -/
namespace Dw
open PySem PySem.Spec PyProof.Rows L2
section
variable {X : Cx} {B B0 H : Hp} {σ : L2.St} {Γ : List Sl} {a b c e : Expr} {pos p p1 p2 p3 tpos : Pos} {i j : Int} {x y z : Str} {rest body orelse : List Stmt} {D : Ends} {r ns : List Int} {cd : Card}
theorem eo_s (h : ED X e σ H (.int i)) : EO X (some e) σ H (some i) := h
theorem eo_n : EO X none σ H none := trivial
theorem getElem?_D {α : Type} {xs : List α} {k : Nat} {d : α} (h : k < xs.length) : xs[k]? = some (xs.getD k d) := by
  rw [List.getD_eq_getElem?_getD, List.getElem?_eq_getElem h]
  rfl
theorem map_at {α : Type} {f : α → PyData} {xs : List α} {k : Nat} {d : α} (h : k < xs.length) : (xs.map f)[k]? = some (f (xs.getD k d)) := by
  rw [List.getElem?_map, getElem?_D (d := d) h]
  rfl
/-- a number of a row, a row of a card, a number of a list -/
theorem ixI (k : Nat) (ha : ED X a σ H (rowD r)) (hb : ED X b σ H (.int i)) (hi : i = (k : Int)) (h : k < r.length) (hs : PlainIx b := by exact fun _ _ => rfl) : ED X (.Subscript a b pos) σ H (.int (r.getD k 0)) := ed_ixT k ha hb hi (map_at h) hs
theorem ixR (k : Nat) (ha : ED X a σ H (cardD cd)) (hb : ED X b σ H (.int i)) (hi : i = (k : Int)) (h : k < cd.length) (hs : PlainIx b := by exact fun _ _ => rfl) : ED X (.Subscript a b pos) σ H (rowD (cd.getD k [])) := ed_ixT k ha hb hi (map_at h) hs
theorem ixL (k : Nat) (ha : ER X a σ H (ns.map PyData.int)) (hb : ED X b σ H (.int i)) (hi : i = (k : Int)) (h : k < ns.length) (hs : PlainIx b := by exact fun _ _ => rfl) : ED X (.Subscript a b pos) σ H (.int (ns.getD k 0)) := ed_ixL k ha hb hi (map_at h) hs
theorem lenR (hg : Gl X "len") (hm : X.mg "len" = none) (ha : ED X e σ H (rowD r)) (hst : starEach [e] X.env = (false, eval e X.env) :: starEach [] X.env := by rfl) : ED X (.Call (.Name "len" p) [e] [] pos) σ H (.int r.length) := (ed_lenT hg hm ha hst).to (by rw [List.length_map])
theorem lenC (hg : Gl X "len") (hm : X.mg "len" = none) (ha : ED X e σ H (cardD cd)) (hst : starEach [e] X.env = (false, eval e X.env) :: starEach [] X.env := by rfl) : ED X (.Call (.Name "len" p) [e] [] pos) σ H (.int cd.length) := (ed_lenT hg hm ha hst).to (by rw [List.length_map])
theorem lenT {w : List Nat} (hg : Gl X "len") (hm : X.mg "len" = none) (ha : ED X e σ H (.str (txt w))) (hz : w.length ≤ sizeLine) (hst : starEach [e] X.env = (false, eval e X.env) :: starEach [] X.env := by rfl) : ED X (.Call (.Name "len" p) [e] [] pos) σ H (.int w.length) := (ed_lenS hg hm ha (by rw [txt_len]; exact hz) hst).to (by rw [txt_len])
theorem lenL {ds : List PyData} {n : Nat} (hg : Gl X "len") (hm : X.mg "len" = none) (ha : ER X e σ H ds) (hn : ds.length = n) (hst : starEach [e] X.env = (false, eval e X.env) :: starEach [] X.env := by rfl) : ED X (.Call (.Name "len" p) [e] [] pos) σ H (.int n) := (ed_lenL hg hm ha hst).to (by rw [hn])
theorem txt_at {w : List Nat} {k : Nat} (h : k < w.length) : (txt w).cps[k]?.getD 0 = w.getD k 0 + 49 := by
  show ((w.map (· + 49)).toArray)[k]?.getD 0 = _
  rw [List.getElem?_toArray, List.getElem?_map, getElem?_D (d := 0) h]
  rfl
theorem txt_size (w : List Nat) : (txt w).cps.size = w.length := txt_len w
theorem rowD_len (r : List Int) : (r.map PyData.int).length = r.length := List.length_map _
theorem small (n : Nat) (h : n ≤ 100000) : n ≤ sizeLine := Nat.le_trans h (by decide)
theorem smallL (n : Nat) (h : n ≤ 100000) : n < sizeLine := Nat.lt_of_le_of_lt h (by decide)
theorem take_succ_map {α : Type} {f : Nat → α} (n : Nat) : (List.range (n + 1)).map f = (List.range n).map f ++ [f n] := by rw [List.range_succ, List.map_append]; rfl
/-- a fold, turn by turn -/
theorem foldl_take {α β : Type} {f : β → α → β} {xs : List α} {i : Nat} {b : β} {d : α} (h : i < xs.length) : (xs.take (i + 1)).foldl f b = f ((xs.take i).foldl f b) (xs.getD i d) := by
  rw [List.take_add_one, List.getElem?_eq_getElem h, List.foldl_append, List.getD_eq_getElem?_getD, List.getElem?_eq_getElem h]
  rfl
end
end Dw
namespace Dw
open PySem PySem.Spec PyProof.Rows L2
/-! ### need_count, need_halls -/
abbrev sNeedCount : Stmt := topS 18
abbrev sNeedHalls : Stmt := topS 19
abbrev sNeedWork : Stmt := topS 20
abbrev sNeedCrowd : Stmt := topS 21
abbrev sNeedAny : Stmt := topS 22
abbrev sDoorsOf : Stmt := topS 23
theorem scNeedCount : FnScope ["number", "low", "high"] ["number", "low", "high"] (defScope sNeedCount) := ⟨rfl, rfl, rfl, by decide +kernel, rfl, by decide +kernel, by decide +kernel⟩
def φNeedCount (ss : List Sl) (r : Sl) : Prop := ∃ n l h : Int, ss = [.dat (.int n), .dat (.int l), .dat (.int h)] ∧ l ≤ n ∧ n ≤ h ∧ r = .dat .none
abbrev KNeedCount (m : Md) := Kn m "need_count" ["number", "low", "high"] 1 φNeedCount
theorem kn_need_count {m : Md} (F : Df m "need_count" sNeedCount ["number", "low", "high"]) : KNeedCount m := by
  refine knS F scNeedCount (fun ss r ⟨_, _, _, e, _⟩ => by rw [e]; rfl) fun f rt ss r H σ hφ hr nd G => ?_
  obtain ⟨n, l, h, rfl, h1, h2, rfl⟩ := hφ
  refine rss_ifF (et_not (et_leLe (vd 1) (vd 0) (vd 2))) (by simp [h1, h2]) fun H G => ?_
  exact rss_end
theorem scNeedHalls : FnScope ["halls"] ["halls"] (defScope sNeedHalls) := ⟨rfl, rfl, rfl, by decide +kernel, rfl, by decide +kernel, by decide +kernel⟩
def φNeedHalls (ss : List Sl) (r : Sl) : Prop := ∃ n : Nat, ss = [.dat (.int n)] ∧ 1 ≤ n ∧ n ≤ 6 ∧ r = .dat .none
abbrev KNeedHalls (m : Md) := Kn m "need_halls" ["halls"] 2 φNeedHalls
theorem kn_need_halls {m : Md} (T : Tx m) (K1 : KNeedCount m) (F : Df m "need_halls" sNeedHalls ["halls"]) : KNeedHalls m := by
  refine knS F scNeedHalls (fun ss r ⟨_, e, _⟩ => by rw [e]; rfl) fun f rt ss r H σ hφ hr nd G => ?_
  obtain ⟨n, rfl, h1, h2, rfl⟩ := hφ
  obtain ⟨t, mh⟩ := T.halls
  refine rss_expr (ed_call K1 (as_d (vd 0) (as_d ed_int (as_d (ed_gI (by rfl) mh) as_0))) ⟨n, 1, 6, rfl, by omega, by omega, rfl⟩) fun H G => ?_
  exact rss_end
/-! ### need_work -/
def Word (h : Nat) (w : List Nat) : Prop := ∀ d ∈ w, d < h
theorem Word.at {h k : Nat} {w : List Nat} (W : Word h w) (hk : k < w.length) : w.getD k 0 < h := by
  have e := getElem?_D (d := 0) hk
  exact W _ (List.mem_of_getElem? e)
theorem cut_doors : ∀ h : Nat, 1 ≤ h → h ≤ 6 → cutS "123456" none (some (h : Int)) = txt (List.range h) := by
  intro h h1 h2
  have : h = 1 ∨ h = 2 ∨ h = 3 ∨ h = 4 ∨ h = 5 ∨ h = 6 := by omega
  rcases this with rfl | rfl | rfl | rfl | rfl | rfl <;> decide +kernel
theorem in_doors {h d : Nat} (hd : d < h) : (d + 49) ∈ (txt (List.range h)).cps.toList := by
  rw [txt_list]
  exact List.mem_map.mpr ⟨d, List.mem_range.mpr hd, rfl⟩
theorem scNeedWork : FnScope ["halls", "work", "place", "sign"] ["halls", "work"] (defScope sNeedWork) := ⟨rfl, rfl, rfl, by decide +kernel, rfl, by decide +kernel, by decide +kernel⟩
def φNeedWork (ss : List Sl) (r : Sl) : Prop := ∃ (h : Nat) (w : List Nat), ss = [.dat (.int h), .dat (.str (txt w))] ∧ 1 ≤ h ∧ h ≤ 6 ∧ Word h w ∧ w.length ≤ 400 ∧ r = .dat .none
abbrev KNeedWork (m : Md) := Kn m "need_work" ["halls", "work"] 1 φNeedWork
theorem kn_need_work {m : Md} (T : Tx m) (F : Df m "need_work" sNeedWork ["halls", "work"]) : KNeedWork m := by
  refine knS F scNeedWork (fun ss r ⟨_, _, e, _⟩ => by rw [e]; rfl) fun f rt ss r H σ hφ hr nd G => ?_
  obtain ⟨h, w, rfl, h1, h2, W, hl, rfl⟩ := hφ
  obtain ⟨t1, mD⟩ := T.doors
  obtain ⟨t2, mS⟩ := T.signs
  have hu := hr.units
  refine rss_enumS 2 3 (vd 1) (fun _ Γ => Γ = [.dat (.int h), .dat (.str (txt w)), .un, .un]) rfl (fun B' sB i Γ σ H hi j G => ?_) (fun B' sB Γ σ H j G => ?_) (by rfl) T.enum
  · subst j
    rw [txt_size] at hi
    refine rss_ifF (et_or (et_eqI hu (vd 2) (ed_gI (by rfl) mS)) fun _ => et_notInS (n := (txt w).cps[i]?.getD 0) (vd 3) (ed_slS (ed_gS (by rfl) mD) eo_n (eo_s (vd 0)) (by decide +kernel))) ?_ fun H G => ?_
    · rw [txt_at hi, cut_doors h h1 h2]
      have q := in_doors (W.at hi)
      simp only [q, decide_true, Bool.not_true, Bool.or_false, decide_eq_false_iff_not]
      omega
    · exact rss_nil ⟨_, rfl, G.wk⟩
  · subst j
    exact rss_end
/-! ### need_crowd, need_any_crowd -/
def Crowd (cr : List Int) : Prop := ∀ x ∈ cr, 0 ≤ x ∧ x ≤ 1000000000000000000
theorem Crowd.at {k : Nat} {cr : List Int} (W : Crowd cr) (hk : k < cr.length) : 0 ≤ cr.getD k 0 ∧ cr.getD k 0 ≤ 1000000000000000000 := W _ (List.mem_of_getElem? (getElem?_D (d := 0) hk))
theorem map_getD {f : Int → PyData} {r : List Int} {k : Nat} (h : k < r.length) : (r.map f)[k]?.getD .none = f (r.getD k 0) := by
  rw [map_at (d := 0) h]
  rfl
theorem scNeedCrowd : FnScope ["halls", "crowd", "at", "many"] ["halls", "crowd"] (defScope sNeedCrowd) := ⟨rfl, rfl, rfl, by decide +kernel, rfl, by decide +kernel, by decide +kernel⟩
def φNeedCrowd (ss : List Sl) (r : Sl) : Prop := ∃ (h : Nat) (cr : List Int), ss = [.dat (.int h), .dat (rowD cr)] ∧ cr.length = h ∧ h ≤ 6 ∧ Crowd cr ∧ r = .dat .none
abbrev KNeedCrowd (m : Md) := Kn m "need_crowd" ["halls", "crowd"] 1 φNeedCrowd
theorem kn_need_crowd {m : Md} (T : Tx m) (F : Df m "need_crowd" sNeedCrowd ["halls", "crowd"]) : KNeedCrowd m := by
  refine knS F scNeedCrowd (fun ss r ⟨_, _, e, _⟩ => by rw [e]; rfl) fun f rt ss r H σ hφ hr nd G => ?_
  obtain ⟨h, cr, rfl, hl, h6, C, rfl⟩ := hφ
  obtain ⟨t1, mF⟩ := T.folk
  have hu := hr.units
  refine rss_enumT (ds := cr.map PyData.int) 2 3 (vd 1) (fun _ Γ => Γ = [.dat (.int h), .dat (rowD cr), .un, .un]) rfl (fun B' sB i Γ σ H hi j G => ?_) (fun B' sB Γ σ H j G => ?_) (by rfl) T.enum
  · subst j
    rw [List.length_map] at hi
    rw [map_getD hi] at G
    refine rss_ifF (et_or (et_eqI hu (vd 2) (vd 0)) fun _ => et_not (et_leLe ed_int (vd 3) (ed_gI (by rfl) mF))) ?_ fun H G => ?_
    · obtain ⟨q1, q2⟩ := C.at hi
      simp only [q1, q2, decide_true, Bool.and_true, Bool.not_true, Bool.or_false, decide_eq_false_iff_not]
      omega
    · exact rss_nil ⟨_, rfl, G.wk⟩
  · subst j
    refine rss_ifF (et_lt (lenR (by rfl) T.len (vd 1)) (vd 0)) (by simp [hl]) fun H G => ?_
    exact rss_end
theorem scNeedAny : FnScope ["crowd"] ["crowd"] (defScope sNeedAny) := ⟨rfl, rfl, rfl, by decide +kernel, rfl, by decide +kernel, by decide +kernel⟩
def φNeedAny (ss : List Sl) (r : Sl) : Prop := ∃ (cr : List Int), ss = [.dat (rowD cr)] ∧ 1 ≤ cr.length ∧ cr.length ≤ 6 ∧ Crowd cr ∧ r = .dat .none
abbrev KNeedAny (m : Md) := Kn m "need_any_crowd" ["crowd"] 2 φNeedAny
theorem kn_need_any {m : Md} (T : Tx m) (K1 : KNeedCrowd m) (F : Df m "need_any_crowd" sNeedAny ["crowd"]) : KNeedAny m := by
  refine knS F scNeedAny (fun ss r ⟨_, e, _⟩ => by rw [e]; rfl) fun f rt ss r H σ hφ hr nd G => ?_
  obtain ⟨cr, rfl, h1, h6, C, rfl⟩ := hφ
  obtain ⟨t1, mH⟩ := T.halls
  refine rss_expr (ed_call K1 (as_d (ed_max2 rfl (by rfl) T.max ed_int (ed_min2 rfl (by rfl) T.min (lenR (by rfl) T.len (vd 0)) (ed_gI (by rfl) mH))) (as_d (vd 0) as_0)) ⟨cr.length, cr, ?_, rfl, h6, C, rfl⟩) fun H G => ?_
  · have e : max 1 (min (cr.length : Int) 6) = (cr.length : Int) := by
      rw [Int.min_eq_left (by omega), Int.max_eq_right (by omega)]
    rw [e]
  · exact rss_end
/-! ### doors_of -/
theorem scDoorsOf : FnScope ["work", "sign"] ["work"] (defScope sDoorsOf) := ⟨rfl, rfl, rfl, by decide +kernel, rfl, by decide +kernel, by decide +kernel⟩
def intsOf (w : List Nat) : List PyData := w.map fun d => .int (d : Nat)
def φDoorsOf (ss : List Sl) (r : Sl) : Prop := ∃ (w : List Nat), ss = [.dat (.str (txt w))] ∧ Word 6 w ∧ w.length ≤ 400 ∧ r = .lst (intsOf w)
abbrev KDoorsOf (m : Md) := Kn m "doors_of" ["work"] 1 φDoorsOf
theorem index_doors : ∀ d : Nat, d < 6 → Txt.index0 "123456" ⟨#[d + 49]⟩ = some d := by
  intro d h
  have : d = 0 ∨ d = 1 ∨ d = 2 ∨ d = 3 ∨ d = 4 ∨ d = 5 := by omega
  rcases this with rfl | rfl | rfl | rfl | rfl | rfl <;> decide +kernel
theorem range_getD {β : Type} {g : Nat → β} (w : List Nat) : (List.range w.length).map (fun i => g (w.getD i 0)) = w.map g := by
  apply List.ext_getElem?
  intro i
  by_cases h : i < w.length
  · rw [List.getElem?_map, List.getElem?_range h, List.getElem?_map, getElem?_D (d := 0) h]
    rfl
  · rw [List.getElem?_eq_none (by simp; omega), List.getElem?_eq_none (by simp; omega)]
theorem kn_doors_of {m : Md} (T : Tx m) (F : Df m "doors_of" sDoorsOf ["work"]) : KDoorsOf m := by
  refine knS F scDoorsOf (fun ss r ⟨_, e, _⟩ => by rw [e]; rfl) fun f rt ss r H σ hφ hr nd G => ?_
  obtain ⟨w, rfl, W, hl, rfl⟩ := hφ
  obtain ⟨t1, mD⟩ := T.doors
  refine rss_retN (EN.to (ENc.en (lc_S (own := [("sign", 1)]) (out := fun i => .int (w.getD i 0 : Nat)) 1 (vd 0) (by rw [txt_size]; exact small _ (by omega)) (blkOk_by (N := ["work", "sign"]) (sc := defScope sDoorsOf) (by decide +kernel)) ?_)) ?_)
  · intro s0 H0 C cl fp i σ' H' hi G
    rw [txt_size] at hi
    exact ed_index rfl (ed_gS (by rfl) mD) (vd 1) (by rw [txt_at hi]; exact index_doors _ (W.at hi))
  · rw [txt_size]
    exact range_getD (g := fun d => PyData.int (d : Nat)) w
end Dw
namespace Dw
open PySem PySem.Spec PyProof.Rows L2
/-! ### step -/
abbrev sStep : Stmt := topS 24
abbrev sRun : Stmt := topS 25
abbrev sGone : Stmt := topS 26
/-- a def of the module and its promise -/
structure KnG (m : Md) (x : Str) (ps : List Str) (k : Nat) (sp : Sp) : Prop where
  ex : ∃ (f : Addr) (fd : FuncData), FnOk m.P m.w m.K m.mg m.base CX0 k f fd ps sp ∧ m.mg x = some (.ref f) ∧ PySem.W.keepIn m.K (.ref f) = true ∧ Binds m.K fd ps []
/-- all but one -/
def rm (H : Hp) (l : Addr) : Hp := fun a => if a = l then none else H a
theorem rm_same {H : Hp} {l : Addr} : rm H l l = none := if_pos rfl
theorem rm_ne {H : Hp} {l a : Addr} (h : a ≠ l) : rm H l a = H a := if_neg h
theorem rm_le {H : Hp} {l : Addr} : Same (rm H l) H := fun a o h => by
  by_cases e : a = l
  · rw [e, rm_same] at h
    cases h
  · rw [rm_ne e] at h
    exact h
theorem upd_of_rm {H H' : Hp} {l : Addr} {u : HO} (s : Same (rm H l) H') (h : H' l = some u) : Same (upd H l u) H' := fun a o e => by
  by_cases c : a = l
  · rw [c, upd_same] at e
    cases e
    rw [c]
    exact h
  · rw [upd_ne c] at e
    exact s a o (by rw [rm_ne c]; exact e)
def spStep : Sp := fun vs H Q _ => ∃ (l : Addr) (ns : List Int) (d : Nat), vs = [.ref l, .int d] ∧ H l = some (.lst (ns.map V.int)) ∧ d + 1 < ns.length ∧
  ∀ H', Same (upd H l (.lst ((stepL ns d).map V.int))) H' → Q (.bl (!decide (ns.getD d 0 = 0))) H'
abbrev KStep (m : Md) := KnG m "step" ["rows", "door"] 1 spStep
theorem scStep : FnScope ["rows", "door"] ["rows", "door"] (defScope sStep) := ⟨rfl, rfl, rfl, by decide +kernel, rfl, by decide +kernel, by decide +kernel⟩
theorem setInt {ns : List Int} {k : Nat} {x : Int} : (ns.map PyData.int).set k (.int x) = (ns.set k x).map PyData.int := List.map_set.symm
theorem kn_step {m : Md} (F : Df m "step" sStep ["rows", "door"]) : KStep m := by
  obtain ⟨f, fd, h1, h2, h3⟩ := F.ex
  refine ⟨f, fd, ?_, h2, h1.kp, h3⟩
  refine h1.ok scStep (fun vs H Q E ⟨l, ns, d, e, _⟩ => by rw [e]; rfl) fun cdv A outer s H vs Q E hr hsp => ?_
  obtain ⟨l, ns, d, rfl, hl, hd, k⟩ := hsp
  refine ⟨RSs (cxD m ["rows", "door"] "step" sStep f ⟨cdv, A, outer, s, H, E⟩) (defBody sStep), rss_pss, ?_⟩
  have hr' : Room 0 (cxD m ["rows", "door"] "step" sStep f ⟨cdv, A, outer, s, H, E⟩).A := hr
  have hu := hr'.units
  have G : Good (rm H l) H (L2.start ["rows", "door"] [V.ref l, V.int d]) [.lst (ns.map PyData.int), .dat (.int (d : Nat))] := by
    refine ⟨rm_le, rfl, fun i sl o e1 e2 => ?_, fun i j si sj a hij e1 e2 o1 o2 _ _ => ?_⟩
    · match i, e1, e2 with
      | 0, e1, e2 =>
        cases e1
        cases e2
        exact ⟨l, _, rfl, rm_same, hl, imAll_map (fun x => im_int x) ns⟩
      | 1, e1, e2 =>
        cases e1
        cases e2
        exact ⟨_, rfl, im_int _⟩
      | i + 2, e1, _ => cases e1
    · match i, j, e1, e2 with
      | 0, 0, _, _ => exact absurd rfl hij
      | 0, 1, _, e2 => cases e2; cases o2
      | 1, _, e1, _ => cases e1; cases o1
      | 0, j + 2, _, e2 => cases e2
      | i + 2, _, e1, _ => cases e1
  have fin : ∀ {H' : Hp} {ns' : List Int} {b : Bool}, Good (rm H l) H' (L2.start ["rows", "door"] [V.ref l, V.int d]) [.lst (ns'.map PyData.int), .dat (.int (d : Nat))] → stepL ns d = ns' → (!decide (ns.getD d 0 = 0)) = b → Q (.bl b) H' := fun {H' ns' b} G e eb => by
    obtain ⟨l', vs, e1, _, e3, q⟩ := G.lst (i := 0) rfl
    cases e1
    rw [← eb]
    refine k H' (upd_of_rm G.same ?_)
    rw [e3, q.ints, e]
  refine rss_if (et_eqI hu (ixL d (vl 0) (vd 1) rfl (by omega)) ed_int) (fun H' G hk => ?_) (fun H' G hk => ?_)
  · have e0 := of_decide_eq_true hk
    refine rss_ret ed_bl fun v H2 s2 r => ?_
    rw [Im.ofBool r]
    exact fin (G.mono s2) (by unfold stepL; rw [if_pos e0]) (by rw [decide_eq_true e0]; rfl)
  · have e0 := of_decide_eq_false hk
    refine rss_nil ?_
    refine rss_augIx (m := ns.getD d 0) 0 d (pip_of iop_sub) rfl (vd 1) ed_int rfl (map_at (by omega)) fun H2 G2 => ?_
    rw [setInt] at G2
    refine rss_augIx (m := (ns.set d (ns.getD d 0 - 1)).getD (d + 1) 0) 0 (d + 1) (pip_of iop_add) rfl (ed_add (vd 1) ed_int) ed_int (by omega) (map_at (by simpa using hd)) fun H3 G3 => ?_
    refine rss_ret ed_bl fun v H4 s4 r => ?_
    rw [Im.ofBool r]
    have G4 := G3.mono s4
    refine fin (ns' := stepL ns d) (G4.cast ?_) rfl (by rw [decide_eq_false e0]; rfl)
    show [Sl.lst (((ns.set d (ns.getD d 0 - 1)).map PyData.int).set (d + 1) (.int ((ns.set d (ns.getD d 0 - 1)).getD (d + 1) 0 + 1))), Sl.dat (.int (d : Nat))] = _
    rw [setInt]
    unfold stepL
    rw [if_neg e0]
section
variable {X : Cx} {B B0 H : Hp} {σ : L2.St} {Γ : List Sl} {pos p p1 p2 p3 tpos : Pos} {x y : Str} {rest body orelse : List Stmt} {D : Ends} {ns : List Int} {d k' : Nat} {Q : VK}
/-- an object of the frame's own has changed in a callee -/
theorem Good.chg {i : Nat} {sl sl' : Sl} {l : Addr} {u : HO} {H' : Hp} (G : Good B H σ Γ) (h : Γ[i]? = some sl) (o : sl.own = true) (e : σ[i]? = some (some (.ref l))) (hs : SlOk B (L2.upd H l u) (some (.ref l)) sl') (ho : sl'.own = true) (s : Same (L2.upd H l u) H') : Good B H' σ (Γ.set i sl') := (G.upd h o e hs ho).mono s
theorem re_step (K : KStep (mdOf X)) (n t : Nat) (hn : Γ[n]? = some (.lst (ns.map PyData.int))) (ht : Γ[t]? = some (.dat (.int (d : Nat)))) (hd : d + 1 < ns.length) (k : ∀ H', Good B H' σ (Γ.set n (.lst ((stepL ns d).map PyData.int))) → Q (.bl (!decide (ns.getD d 0 = 0))) H')
    (G : Good B H σ Γ) (hr : Room k' X.A) (hk : 1 ≤ k') (hg : Gl X "step") (hi : X.N[n]? = some x) (hj : X.N[t]? = some y) (hv : Vis X.env.scope x) (hw : Vis X.env.scope y) (d1 : (x == ("__debug__" : Str)) = false) (d2 : (x == ("__classdict__" : Str)) = false) (d3 : (y == ("__debug__" : Str)) = false) (d4 : (y == ("__classdict__" : Str)) = false)
    (h1 : starEach [.Name x p1, .Name y p2] X.env = (false, eval (.Name x p1) X.env) :: starEach [.Name y p2] X.env) (h2 : starEach [.Name y p2] X.env = (false, eval (.Name y p2) X.env) :: starEach [] X.env) (hpl : (backTo pos (starEach [.Name y p2] X.env)).any (·.1) = false) :
    RE X (.Call (.Name "step" p) [.Name x p1, .Name y p2] [] pos) σ H Q := by
  obtain ⟨f, fd, g1, g2, g3, g4⟩ := K.ex
  refine RE.of (pe_call (CX := CX0) (E := E0) g1 (hr.mono hk) hg g2 g3 g4 .nil pass0 (pa_cons (pe_var hi hv d1 d2) (pa_cons (pe_var hj hw d3 d4) pa_nil h2) h1) (by decide) h1 hpl) ?_
  obtain ⟨l, vs, e1, e2, e3, q3⟩ := G.lst hn
  obtain ⟨v, e4, q4⟩ := G.dat ht
  refine ⟨_, e1, _, e4, l, ns, d, by rw [q4.ofInt]; rfl, by rw [e3, q3.ints], hd, fun H' s => k H' ?_⟩
  exact G.chg hn rfl e1 ⟨l, _, rfl, e2, upd_same, imAll_map (fun x => im_int x) _⟩ rfl s
theorem rss_step (K : KStep (mdOf X)) (n t : Nat) (hn : Γ[n]? = some (.lst (ns.map PyData.int))) (ht : Γ[t]? = some (.dat (.int (d : Nat)))) (hd : d + 1 < ns.length) (k : ∀ H', Good B H' σ (Γ.set n (.lst ((stepL ns d).map PyData.int))) → RSs X rest D σ H')
    (G : Good B H σ Γ := by assumption) (hr : Room k' X.A := by assumption) (hk : 1 ≤ k' := by decide) (hg : Gl X "step" := by rfl) (hi : X.N[n]? = some x := by rfl) (hj : X.N[t]? = some y := by rfl) (hv : Vis X.env.scope x := by exact Or.inl rfl) (hw : Vis X.env.scope y := by exact Or.inl rfl) (d1 : (x == ("__debug__" : Str)) = false := by decide) (d2 : (x == ("__classdict__" : Str)) = false := by decide) (d3 : (y == ("__debug__" : Str)) = false := by decide) (d4 : (y == ("__classdict__" : Str)) = false := by decide)
    (h1 : starEach [.Name x p1, .Name y p2] X.env = (false, eval (.Name x p1) X.env) :: starEach [.Name y p2] X.env := by rfl) (h2 : starEach [.Name y p2] X.env = (false, eval (.Name y p2) X.env) :: starEach [] X.env := by rfl) (hpl : (backTo pos (starEach [.Name y p2] X.env)).any (·.1) = false := by rfl)
    (hs : swapsWith (.Call (.Name "step" p) [.Name x p1, .Name y p2] [] pos) none tpos.line X.env = pure false := by rfl) : RSs X (.Expr (.Call (.Name "step" p) [.Name x p1, .Name y p2] [] pos) tpos :: rest) D σ H :=
  rss_cons (RS.of (ps_expr re_pe hs) (re_step K n t hn ht hd k G hr hk hg hi hj hv hw d1 d2 d3 d4 h1 h2 hpl))
theorem rss_ifStep (K : KStep (mdOf X)) (n t : Nat) (hn : Γ[n]? = some (.lst (ns.map PyData.int))) (ht : Γ[t]? = some (.dat (.int (d : Nat)))) (hd : d + 1 < ns.length)
    (k1 : ∀ H', Good B H' σ (Γ.set n (.lst ((stepL ns d).map PyData.int))) → ns.getD d 0 ≠ 0 → RSs X body { D with nx := fun σ H => RSs X rest D σ H } σ H') (k2 : ∀ H', Good B H' σ (Γ.set n (.lst ((stepL ns d).map PyData.int))) → ns.getD d 0 = 0 → RSs X orelse { D with nx := fun σ H => RSs X rest D σ H } σ H')
    (G : Good B H σ Γ := by assumption) (hr : Room k' X.A := by assumption) (hk : 1 ≤ k' := by decide) (hg : Gl X "step" := by rfl) (hi : X.N[n]? = some x := by rfl) (hj : X.N[t]? = some y := by rfl) (hv : Vis X.env.scope x := by exact Or.inl rfl) (hw : Vis X.env.scope y := by exact Or.inl rfl) (d1 : (x == ("__debug__" : Str)) = false := by decide) (d2 : (x == ("__classdict__" : Str)) = false := by decide) (d3 : (y == ("__debug__" : Str)) = false := by decide) (d4 : (y == ("__classdict__" : Str)) = false := by decide)
    (h1 : starEach [.Name x p1, .Name y p2] X.env = (false, eval (.Name x p1) X.env) :: starEach [.Name y p2] X.env := by rfl) (h2 : starEach [.Name y p2] X.env = (false, eval (.Name y p2) X.env) :: starEach [] X.env := by rfl) (hpl : (backTo pos (starEach [.Name y p2] X.env)).any (·.1) = false := by rfl)
    (he : ∀ whole, isTrue (.Call (.Name "step" p) [.Name x p1, .Name y p2] [] pos) X.env whole = (do let v ← whole; standAt (Expr.Call (.Name "step" p) [.Name x p1, .Name y p2] [] pos).pos; holding [v] (truthy v)) := by intro _; rfl) : RSs X (.If (.Call (.Name "step" p) [.Name x p1, .Name y p2] [] pos) body orelse tpos :: rest) D σ H :=
  rss_cons (RS.of (ps_if (pt_val re_pe he) rss_pss rss_pss) (re_step K n t hn ht hd (fun H' G' => ⟨_, rfl, by
    by_cases e0 : ns.getD d 0 = 0
    · rw [decide_eq_true e0]
      exact iteF (k2 H' G' e0)
    · rw [decide_eq_false e0]
      exact iteT (k1 H' G' e0)⟩) G hr hk hg hi hj hv hw d1 d2 d3 d4 h1 h2 hpl))
end
/-! ### run -/
theorem scRun : FnScope ["halls", "work", "crowd", "rows", "door"] ["halls", "work", "crowd"] (defScope sRun) := ⟨rfl, rfl, rfl, by decide +kernel, rfl, by decide +kernel, by decide +kernel⟩
def φWCr (res : Nat → List Nat → List Int → PyData) (ss : List Sl) (r : Sl) : Prop := ∃ (h : Nat) (w : List Nat) (cr : List Int), ss = [.dat (.int h), .dat (.str (txt w)), .dat (rowD cr)] ∧ 1 ≤ h ∧ h ≤ 6 ∧ Word h w ∧ w.length ≤ 8 ∧ cr.length = h ∧ Crowd cr ∧ r = .dat (res h w cr)
theorem Word.up {h : Nat} {w : List Nat} (W : Word h w) (h6 : h ≤ 6) : Word 6 w := fun d hd => Nat.lt_of_lt_of_le (W d hd) h6
theorem cut_last {ds : List PyData} : cutD ds none (some (-1)) = ds.dropLast := by
  unfold cutD
  have e1 : HT.sIx ds.length 0 none = 0 := rfl
  rw [e1, List.drop_zero, List.dropLast_eq_take]
  congr 1
  show HT.sIx ds.length ds.length (some (-1)) - 0 = ds.length - 1
  unfold HT.sIx
  simp
  omega
abbrev KRun (m : Md) := Kn m "run" ["halls", "work", "crowd"] 3 (φWCr fun _ w cr => rowD (runM w cr))
theorem intsOf_len (w : List Nat) : (intsOf w).length = w.length := List.length_map _
theorem intsOf_at {w : List Nat} {i : Nat} {d : PyData} (h : (intsOf w)[i]? = some d) : i < w.length ∧ d = .int (w.getD i 0 : Nat) := by
  have hi : i < w.length := by
    obtain ⟨q, _⟩ := List.getElem?_eq_some_iff.mp h
    rw [intsOf_len] at q
    exact q
  refine ⟨hi, ?_⟩
  unfold intsOf at h
  rw [map_at (d := 0) hi] at h
  exact (Option.some.inj h).symm
theorem kn_run {m : Md} (T : Tx m) (K1 : KNeedHalls m) (K2 : KNeedWork m) (K3 : KNeedCrowd m) (K4 : KDoorsOf m) (K5 : KStep m) (F : Df m "run" sRun ["halls", "work", "crowd"]) : KRun m := by
  refine knS F scRun (fun ss r ⟨_, _, _, e, _⟩ => by rw [e]; rfl) fun f rt ss r H σ hφ hr nd G => ?_
  obtain ⟨h, w, cr, rfl, h1, h6, W, hw, hl, C, rfl⟩ := hφ
  refine rss_expr (ed_call K1 (as_d (vd 0) as_0) ⟨h, rfl, h1, h6, rfl⟩) fun H G => ?_
  refine rss_expr (ed_call K2 (as_d (vd 0) (as_d (vd 1) as_0)) ⟨h, w, rfl, h1, h6, W, by omega, rfl⟩) fun H G => ?_
  refine rss_expr (ed_call K3 (as_d (vd 0) (as_d (vd 2) as_0)) ⟨h, cr, rfl, hl, h6, C, rfl⟩) fun H G => ?_
  refine rss_setN 3 (ds := (cr ++ [0]).map PyData.int) (EN.to (ev_cat (en_listT (by rfl) T.list (vd 2)).er (en_lst (ds := [.int 0]) (ea_d ed_int ea_0)).er (by simp [hl]; exact small _ (by omega))) (by rw [List.map_append]; rfl)) fun σ H G => ?_
  refine rss_forL 4 (en_call K4 (as_d (vd 1) as_0) ⟨w, rfl, W.up h6, by omega, rfl⟩) (fun i Γ => Γ = [.dat (.int h), .dat (.str (txt w)), .dat (rowD cr), .lst (((w.take i).foldl stepL (cr ++ [0])).map PyData.int), .un]) rfl (fun B' sB i d Γ σ H hi j G => ?_) (fun B' sB Γ σ H j G => ?_)
  · subst j
    obtain ⟨hi2, rfl⟩ := intsOf_at hi
    refine rss_step K5 3 4 rfl rfl ?_ fun H G => ?_
    · rw [stepF_len, List.length_append, hl, List.length_singleton]
      have := W.at hi2
      omega
    refine rss_nil ⟨_, rfl, ?_⟩
    rw [foldl_take hi2]
    exact G.wk
  · subst j
    rw [intsOf_len, List.take_length] at G
    refine rss_retD (ED.to (ed_tupleL (by rfl) T.tuple (ev_slL (vl 3) eo_n (eo_s (ed_neg ed_int))).er) ?_)
    rw [cut_last, ← List.map_dropLast]
    rfl
end Dw
namespace Dw
open PySem PySem.Spec PyProof.Rows L2
/-! ### gone -/
theorem scGone : FnScope ["halls", "work", "crowd", "rows", "went", "idle", "door"] ["halls", "work", "crowd"] (defScope sGone) := ⟨rfl, rfl, rfl, by decide +kernel, rfl, by decide +kernel, by decide +kernel⟩
def goneM (h : Nat) (w : List Nat) (cr : List Int) : List Int × List Int × List Int := w.foldl goneS (cr ++ [0], List.replicate h 0, List.replicate h 0)
abbrev KGone (m : Md) := Kn m "gone" ["halls", "work", "crowd"] 3 (φWCr fun h w cr => .tuple [rowD (goneM h w cr).2.1, rowD (goneM h w cr).2.2])
theorem rep_int (n : Nat) (i : Int) : List.replicate n (PyData.int i) = (List.replicate n i).map PyData.int := by rw [List.map_replicate]
theorem goneS_len (s : List Int × List Int × List Int) (d : Nat) : (goneS s d).1.length = s.1.length ∧ (goneS s d).2.1.length = s.2.1.length ∧ (goneS s d).2.2.length = s.2.2.length := by
  refine ⟨stepL_len _ _, ?_, ?_⟩
  · unfold goneS
    show (if _ then _ else _ : List Int).length = _
    split <;> simp
  · unfold goneS
    show (if _ then _ else _ : List Int).length = _
    split <;> simp
theorem goneF_len (w : List Nat) : ∀ s : List Int × List Int × List Int, (w.foldl goneS s).1.length = s.1.length ∧ (w.foldl goneS s).2.1.length = s.2.1.length ∧ (w.foldl goneS s).2.2.length = s.2.2.length := by
  induction w with
  | nil => intro s; exact ⟨rfl, rfl, rfl⟩
  | cons d w ih =>
    intro s
    rw [List.foldl_cons]
    obtain ⟨a, b, c⟩ := ih (goneS s d)
    obtain ⟨a', b', c'⟩ := goneS_len s d
    exact ⟨a.trans a', b.trans b', c.trans c'⟩
theorem kn_gone {m : Md} (T : Tx m) (K1 : KNeedHalls m) (K2 : KNeedWork m) (K3 : KNeedCrowd m) (K4 : KDoorsOf m) (K5 : KStep m) (F : Df m "gone" sGone ["halls", "work", "crowd"]) : KGone m := by
  refine knS F scGone (fun ss r ⟨_, _, _, e, _⟩ => by rw [e]; rfl) fun f rt ss r H σ hφ hr nd G => ?_
  obtain ⟨h, w, cr, rfl, h1, h6, W, hw, hl, C, rfl⟩ := hφ
  refine rss_expr (ed_call K1 (as_d (vd 0) as_0) ⟨h, rfl, h1, h6, rfl⟩) fun H G => ?_
  refine rss_expr (ed_call K2 (as_d (vd 0) (as_d (vd 1) as_0)) ⟨h, w, rfl, h1, h6, W, by omega, rfl⟩) fun H G => ?_
  refine rss_expr (ed_call K3 (as_d (vd 0) (as_d (vd 2) as_0)) ⟨h, cr, rfl, hl, h6, C, rfl⟩) fun H G => ?_
  refine rss_setN 3 (ds := (cr ++ [0]).map PyData.int) (EN.to (ev_cat (en_listT (by rfl) T.list (vd 2)).er (en_lst (ds := [.int 0]) (ea_d ed_int ea_0)).er (by simp [hl]; exact small _ (by omega))) (by rw [List.map_append]; rfl)) fun σ H G => ?_
  have rep : ∀ {X : Cx} {σ : L2.St} {H : Hp} {a b : Expr} {pos : Pos}, ER X a σ H [PyData.int 0] → ED X b σ H (.int (h : Nat)) → EN X (.BinOp a .Mult b pos) σ H ((List.replicate h (0 : Int)).map PyData.int) := fun ha hb =>
    (ev_rep1 ha hb (by omega) (by omega) (by rw [Int.toNat_natCast]; exact small _ (by omega))).to (by rw [Int.toNat_natCast, rep_int])
  refine rss_par 4 5 (pN (rep (en_lst (ds := [.int 0]) (ea_d ed_int ea_0)).er (vd 0))) (pN (rep (en_lst (ds := [.int 0]) (ea_d ed_int ea_0)).er (vd 0))) fun σ H G => ?_
  refine rss_forL 6 (en_call K4 (as_d (vd 1) as_0) ⟨w, rfl, W.up h6, by omega, rfl⟩) (fun i Γ => Γ = [.dat (.int h), .dat (.str (txt w)), .dat (rowD cr), .lst (((w.take i).foldl goneS (cr ++ [0], List.replicate h 0, List.replicate h 0)).1.map PyData.int),
    .lst (((w.take i).foldl goneS (cr ++ [0], List.replicate h 0, List.replicate h 0)).2.1.map PyData.int), .lst (((w.take i).foldl goneS (cr ++ [0], List.replicate h 0, List.replicate h 0)).2.2.map PyData.int), .un]) rfl (fun B' sB i d Γ σ H hi j G => ?_) (fun B' sB Γ σ H j G => ?_)
  · subst j
    obtain ⟨hi2, rfl⟩ := intsOf_at hi
    obtain ⟨l1, l2, l3⟩ := goneF_len (w.take i) (cr ++ [0], List.replicate h 0, List.replicate h 0)
    generalize he : (w.take i).foldl goneS (cr ++ [0], List.replicate h 0, List.replicate h 0) = s at G l1 l2 l3
    have hd := W.at hi2
    simp only [List.length_append, List.length_singleton, hl, List.length_replicate] at l1 l2 l3
    refine rss_ifStep K5 3 6 rfl rfl ?_ (fun H G hne => ?_) fun H G he0 => ?_
    · omega
    · refine rss_augIx (m := s.2.1.getD (w.getD i 0) 0) 4 (w.getD i 0) (pip_of iop_add) rfl (vd 6) ed_int rfl (map_at (by omega)) fun H G => ?_
      refine rss_nil (rss_nil ⟨_, rfl, ?_⟩)
      rw [setInt] at G
      have e : goneS s (w.getD i 0) = (stepL s.1 (w.getD i 0), s.2.1.set (w.getD i 0) (s.2.1.getD (w.getD i 0) 0 + 1), s.2.2) := by
        unfold goneS
        rw [if_neg hne, if_neg hne]
      rw [foldl_take hi2, he, e]
      exact G.wk
    · refine rss_augIx (m := s.2.2.getD (w.getD i 0) 0) 5 (w.getD i 0) (pip_of iop_add) rfl (vd 6) ed_int rfl (map_at (by omega)) fun H G => ?_
      refine rss_nil (rss_nil ⟨_, rfl, ?_⟩)
      rw [setInt] at G
      have e : goneS s (w.getD i 0) = (stepL s.1 (w.getD i 0), s.2.1, s.2.2.set (w.getD i 0) (s.2.2.getD (w.getD i 0) 0 + 1)) := by
        unfold goneS
        rw [if_pos he0, if_pos he0]
      rw [foldl_take hi2, he, e]
      exact G.wk
  · subst j
    rw [intsOf_len, List.take_length] at G
    refine rss_retD (ed_tup (ds := [rowD _, rowD _]) (ea_d (ed_tupleL (by rfl) T.tuple (vl 4)) (ea_d (ed_tupleL (by rfl) T.tuple (vl 5)) ea_0)))
end Dw
namespace Dw
open PySem PySem.Spec PyProof.Rows L2
def Sl.nr : Sl → Bool
  | .rls _ => false
  | _ => true
/-- back to a smaller base -/
theorem Good.less {B B' H : Hp} {σ : L2.St} {Γ : List Sl} (G : Good B' H σ Γ) (s : Same B B') (h : Γ.all Sl.nr = true := by rfl) : Good B H σ Γ :=
  ⟨s.trans G.same, G.len, fun i sl o e1 e2 => (G.at_ i sl o e1 e2).less s fun ds z => by
    have q := List.all_eq_true.mp h sl (List.mem_of_getElem? e1)
    rw [z] at q
    exact absurd (show false = true from q) Bool.false_ne_true, G.apart⟩
/-! ### need_card -/
abbrev sNeedCard : Stmt := topS 31
abbrev sNothing : Stmt := topS 32
abbrev sOpened : Stmt := topS 33
abbrev sCardOf : Stmt := topS 34
abbrev sCard : Stmt := topS 35
def CardB (c : Card) : Prop := ∀ r ∈ c, Crowd r
theorem CardB.at {c : Card} {i : Nat} (h : CardB c) (hi : i < c.length) : Crowd (c.getD i []) := h _ (List.mem_of_getElem? (getElem?_D (d := []) hi))
theorem map_getDR {c : Card} {k : Nat} (h : k < c.length) : (c.map rowD)[k]?.getD .none = rowD (c.getD k []) := by
  rw [map_at (d := []) h]
  rfl
theorem scNeedCard : FnScope ["one", "row", "numbers", "place", "number"] ["one"] (defScope sNeedCard) := ⟨rfl, rfl, rfl, by decide +kernel, rfl, by decide +kernel, by decide +kernel⟩
def φNeedCard (ss : List Sl) (r : Sl) : Prop := ∃ (h : Nat) (c : Card), ss = [.dat (cardD c)] ∧ 1 ≤ h ∧ h ≤ 6 ∧ Shape h c ∧ CardB c ∧ r = .dat .none
abbrev KNeedCard (m : Md) := Kn m "need_card" ["one"] 1 φNeedCard
theorem kn_need_card {m : Md} (T : Tx m) (F : Df m "need_card" sNeedCard ["one"]) : KNeedCard m := by
  refine knS F scNeedCard (fun ss r ⟨_, _, e, _⟩ => by rw [e]; rfl) fun f rt ss r H σ hφ hr nd G => ?_
  obtain ⟨h, c, rfl, h1, h6, S, CB, rfl⟩ := hφ
  obtain ⟨t1, mF⟩ := T.folk
  obtain ⟨t2, mH⟩ := T.halls
  have hu := hr.units
  have hl := S.len
  refine rss_ifF (et_not (et_leLe ed_int (lenC (by rfl) T.len (vd 0)) (ed_gI (by rfl) mH))) ?_ fun H G => ?_
  · rw [decide_eq_true (by omega), decide_eq_true (by omega)] <;> rfl
  refine rss_enumT (ds := c.map rowD) 1 2 (vd 0) (fun _ Γ => Γ = [.dat (cardD c), .un, .un, .un, .un]) rfl (fun B' sB i Γ σ H hi j G => ?_) (fun B' sB Γ σ H j G => ?_) (by rfl) T.enum
  · subst j
    rw [List.length_map] at hi
    rw [map_getDR hi] at G
    refine rss_ifF (et_neI hu (lenR (by rfl) T.len (vd 2)) (ed_sub (lenC (by rfl) T.len (vd 0)) (vd 1))) ?_ fun H G => ?_
    · rw [S.row i (by omega), hl, decide_eq_true (by omega)] <;> rfl
    refine rss_enumT (ds := (c.getD i []).map PyData.int) 3 4 (vd 2) (fun _ Γ => Γ = [.dat (cardD c), .dat (.int (i : Nat)), .dat (rowD (c.getD i [])), .un, .un]) rfl (fun B2 sB2 i2 Γ σ H hi2 j G => ?_) (fun B2 sB2 Γ σ H j G => ?_) (by rfl) T.enum
    · subst j
      rw [List.length_map] at hi2
      rw [map_getD hi2] at G
      refine rss_ifF (et_not (et_leLe ed_int (vd 4) (ed_gI (by rfl) mF))) ?_ fun H G => ?_
      · obtain ⟨q1, q2⟩ := (CB.at hi).at hi2
        rw [decide_eq_true q1, decide_eq_true q2] <;> rfl
      · exact rss_nil ⟨_, rfl, G.wk⟩
    · subst j
      exact rss_nil ⟨_, rfl, (G.less sB2).wk⟩
  · subst j
    exact rss_end
/-! ### nothing -/
theorem scNothing : FnScope ["halls", "hall"] ["halls"] (defScope sNothing) := ⟨rfl, rfl, rfl, by decide +kernel, rfl, by decide +kernel, by decide +kernel⟩
def φNothing (ss : List Sl) (r : Sl) : Prop := ∃ (h : Nat), ss = [.dat (.int h)] ∧ h ≤ 6 ∧ r = .dat (cardD (nothingM h))
abbrev KNothing (m : Md) := Kn m "nothing" ["halls"] 1 φNothing
theorem kn_nothing {m : Md} (T : Tx m) (F : Df m "nothing" sNothing ["halls"]) : KNothing m := by
  refine knS F scNothing (fun ss r ⟨_, e, _⟩ => by rw [e]; rfl) fun f rt ss r H σ hφ hr nd G => ?_
  obtain ⟨h, rfl, h6, rfl⟩ := hφ
  refine rss_retD (ED.to (ed_tupleL (by rfl) T.tuple (EN.er (ENc.en (lc_R (own := [("hall", 1)]) (m := (h : Nat)) (out := fun i => rowD (List.replicate (h - i) 0)) 1 (vd 0) (by omega) (by omega) (small _ (by omega)) (blkOk_by (N := ["halls", "hall"]) (sc := defScope sNothing) (by decide +kernel)) ?_ T.range)))) ?_)
  · intro s0 H0 C cl fp i σ' H' hi G
    refine (ed_repT (d := .int 0) (k := (h : Int) - (i : Int)) (ed_tup (ds := [.int 0]) (ea_d ed_int ea_0)) (ed_sub (vd 0) (vd 1)) (by omega) (by omega)).to ?_
    have e : ((h : Int) - (i : Int)).toNat = h - i := by omega
    rw [e, rep_int]
    rfl
  · rw [Int.toNat_natCast]
    show PyData.tuple ((List.range h).map fun i => rowD (List.replicate (h - i) 0)) = cardD (nothingM h)
    unfold cardD nothingM
    rw [List.map_map]
    rfl
/-! ### opened, card_of, card -/
theorem scOpened : FnScope ["one", "door", "found", "row", "numbers", "rest", "at"] ["one", "door"] (defScope sOpened) := ⟨rfl, rfl, rfl, by decide +kernel, rfl, by decide +kernel, by decide +kernel⟩
def φOpened (ss : List Sl) (r : Sl) : Prop := ∃ (h d : Nat) (c : Card), ss = [.dat (cardD c), .dat (.int d)] ∧ Shape h c ∧ h ≤ 6 ∧ d < h ∧ r = .dat (cardD (openedM c d))
abbrev KOpened (m : Md) := Kn m "opened" ["one", "door"] 1 φOpened
theorem kn_opened {m : Md} (T : Tx m) (F : Df m "opened" sOpened ["one", "door"]) : KOpened m := by
  refine knS F scOpened (fun ss r ⟨_, _, _, e, _⟩ => by rw [e]; rfl) fun f rt ss r H σ hφ hr nd G => ?_
  obtain ⟨h, d, c, rfl, S, h6, hd, rfl⟩ := hφ
  have hu := hr.units
  have hl := S.len
  refine rss_setN 2 en_nil fun σ H G => ?_
  refine rss_enumT (ds := c.map rowD) 3 4 (vd 0) (fun i Γ => Γ = [.dat (cardD c), .dat (.int (d : Nat)), .lst (((List.range i).map fun i => if i ≤ d then openRow (c.getD i []) (d - i) else c.getD i []).map rowD), .un, .un, .un, .un]) rfl (fun B' sB i Γ σ H hi j G => ?_) (fun B' sB Γ σ H j G => ?_) (by rfl) T.enum
  · subst j
    rw [List.length_map] at hi
    rw [map_getDR hi] at G
    have hrow := S.row i (by omega)
    generalize hR : c.getD i [] = R at G hrow
    refine rss_setN 5 (ds := R.map PyData.int) (en_listT (by rfl) T.list (vd 4)) fun σ H G => ?_
    refine rss_set 6 (ed_sub (vd 1) (vd 3)) fun σ H G => ?_
    refine rss_if (et_ge (vd 6) ed_int) (fun H G hk => ?_) (fun H G hk => ?_)
    · have e0 := of_decide_eq_true hk
      have ek : (d : Int) - (i : Int) = ((d - i : Nat) : Int) := by omega
      rw [ek] at G
      refine rss_setIx 5 (d - i) rfl (vd 6) (ed_ifI (et_eqI hu (vd 6) ed_int) (fun _ => ed_add (ixI (d - i) (vd 4) (vd 6) rfl (by omega)) ed_int)
        fun hz => ed_min2 rfl (by rfl) T.min (ed_add (ixI (d - i) (vd 4) (vd 6) rfl (by omega)) ed_int) (ixI (d - i - 1) (vd 4) (ed_sub (vd 6) ed_int) (by have := of_decide_eq_false hz; omega) (by omega))) rfl ?_ fun H G => ?_
      · rw [List.length_map]
        omega
      rw [setInt] at G
      have eo : R.set (d - i) (if decide (((d - i : Nat) : Int) = 0) = true then R.getD (d - i) 0 + 1 else min (R.getD (d - i) 0 + 1) (R.getD (d - i - 1) 0)) = openRow R (d - i) := by
        unfold openRow
        congr 1
        by_cases hz : d - i = 0
        · rw [decide_eq_true (by omega), if_pos rfl, if_pos hz, hz]
        · rw [decide_eq_false (by omega), if_neg Bool.false_ne_true, if_neg hz]
      rw [eo] at G
      refine rss_nil ?_
      refine rss_app 2 rfl (ed_tupleL (by rfl) T.tuple (vl 5)) ?_ fun H G => ?_
      · refine smallL _ ?_
        rw [List.length_map, List.length_map, List.length_range]
        omega
      refine rss_nil ⟨_, rfl, ?_⟩
      have e : ((List.range (i + 1)).map fun i => if i ≤ d then openRow (c.getD i []) (d - i) else c.getD i []).map rowD = ((List.range i).map fun i => if i ≤ d then openRow (c.getD i []) (d - i) else c.getD i []).map rowD ++ [rowD (openRow R (d - i))] := by
        rw [take_succ_map, List.map_append, if_pos (by omega : i ≤ d), hR]
        rfl
      rw [e]
      exact G.wk
    · have e0 := of_decide_eq_false hk
      refine rss_nil ?_
      refine rss_app 2 rfl (ed_tupleL (by rfl) T.tuple (vl 5)) ?_ fun H G => ?_
      · refine smallL _ ?_
        rw [List.length_map, List.length_map, List.length_range]
        omega
      refine rss_nil ⟨_, rfl, ?_⟩
      have e : ((List.range (i + 1)).map fun i => if i ≤ d then openRow (c.getD i []) (d - i) else c.getD i []).map rowD = ((List.range i).map fun i => if i ≤ d then openRow (c.getD i []) (d - i) else c.getD i []).map rowD ++ [rowD R] := by
        rw [take_succ_map, List.map_append, if_neg (by omega : ¬ i ≤ d), hR]
        rfl
      rw [e]
      exact G.wk
  · subst j
    rw [List.length_map] at G
    exact rss_retD (ed_tupleL (by rfl) T.tuple (vl 2))
end Dw
namespace Dw
open PySem PySem.Spec PyProof.Rows L2
section
variable {X : Cx} {B B0 H : Hp} {σ : L2.St} {Γ : List Sl} {e : Expr} {pos p p1 p2 p3 tpos : Pos} {d1 d2 : PyData} {x y : Str} {rest : List Stmt} {D : Ends}
/-- a, b = a pair -/
theorem rss_unp {px py pt : Pos} {kt : Nat} (n m : Nat) (he : ED X e σ H (.tuple [d1, d2])) (k : ∀ σ' H', Good B H' σ' ((Γ.set n (.dat d1)).set m (.dat d2)) → RSs X rest D σ' H') (G : Good B H σ Γ := by assumption)
    (nd : X.N.Nodup := by assumption) (hc : X.calm = true := by rfl) (hi : X.N[n]? = some x := by rfl) (hj : X.N[m]? = some y := by rfl) (hx : Loc X.env.scope x := by first | exact Or.inl rfl | exact Or.inr rfl) (hf : X.fn x = true ∨ X.env.scope.names.lookup x = some .local := by first | exact .inl rfl | exact .inr rfl)
    (hy : Loc X.env.scope y := by first | exact Or.inl rfl | exact Or.inr rfl) (hf2 : X.fn y = true ∨ X.env.scope.names.lookup y = some .local := by first | exact .inl rfl | exact .inr rfl)
    (hw : swappedStores [.Tuple [.Name x px, .Name y py] kt pt] e X.env = pure none := by rfl) (hs : swapsWithSole [.Tuple [.Name x px, .Name y py] kt pt] e pos.line X.env = pure false := by rfl)
    (h0 : (assignEach [.Tuple [.Name x px, .Name y py] kt pt] X.env).map (·.2) = [assign (.Tuple [.Name x px, .Name y py] kt pt) X.env] := by rfl)
    (h1 : (assignEach [.Name x px, .Name y py] X.env).length = 2 := by rfl) (h2 : (assignEach [.Name x px, .Name y py] X.env).findIdx? (·.1) = none := by rfl)
    (h3 : (assignEach [.Name x px, .Name y py] X.env).map (·.2) = assign (.Name x px) X.env :: (assignEach [.Name y py] X.env).map (·.2) := by rfl) (h4 : (assignEach [.Name y py] X.env).map (·.2) = assign (.Name y py) X.env :: (assignEach [] X.env).map (·.2) := by rfl) :
    RSs X (.Assign [.Tuple [.Name x px, .Name y py] kt pt] e pos :: rest) D σ H :=
  rss_cons (RS.of (ps_asg re_pe (pg2 n m nd hc hi hx hf hj hy hf2 h1 h2 h3 h4) hs hw h0) (he H (Same.refl _) _ fun v H1 s1 hv => by
    obtain ⟨l, vs, e1, q1, q2⟩ := Im.ofTup hv
    obtain ⟨v1, r1, rfl, i1, q3⟩ := q2.uncons
    obtain ⟨v2, r2, rfl, i2, q4⟩ := q3.uncons
    have e4 : r2 = [] := by simpa only [ImAll] using q4
    subst e4
    refine ⟨l, [v1, v2], e1, SqT.of q1, rfl, v1, [v2], rfl, v2, [], rfl, rfl, ?_⟩
    exact k _ _ (((G.mono s1).setD n i1).setD m i2)))
end
/-! ### card_of, card -/
theorem scCardOf : FnScope ["halls", "work", "found", "door"] ["halls", "work"] (defScope sCardOf) := ⟨rfl, rfl, rfl, by decide +kernel, rfl, by decide +kernel, by decide +kernel⟩
def φHW (res : Nat → List Nat → PyData) (ss : List Sl) (r : Sl) : Prop := ∃ (h : Nat) (w : List Nat), ss = [.dat (.int h), .dat (.str (txt w))] ∧ 1 ≤ h ∧ h ≤ 6 ∧ Word h w ∧ w.length ≤ 8 ∧ r = .dat (res h w)
abbrev KCardOf (m : Md) := Kn m "card_of" ["halls", "work"] 2 (φHW fun h w => cardD (cardM h w))
theorem kn_card_of {m : Md} (T : Tx m) (K1 : KNothing m) (K2 : KDoorsOf m) (K3 : KOpened m) (F : Df m "card_of" sCardOf ["halls", "work"]) : KCardOf m := by
  refine knS F scCardOf (fun ss r ⟨_, _, e, _⟩ => by rw [e]; rfl) fun f rt ss r H σ hφ hr nd G => ?_
  obtain ⟨h, w, rfl, h1, h6, W, hw, rfl⟩ := hφ
  refine rss_set 2 (ed_call K1 (as_d (vd 0) as_0) ⟨h, rfl, h6, rfl⟩) fun σ H G => ?_
  refine rss_forL 3 (en_call K2 (as_d (vd 1) as_0) ⟨w, rfl, W.up h6, by omega, rfl⟩) (fun i Γ => Γ = [.dat (.int h), .dat (.str (txt w)), .dat (cardD ((w.take i).foldl openedM (nothingM h))), .un]) rfl (fun B' sB i d Γ σ H hi j G => ?_) (fun B' sB Γ σ H j G => ?_)
  · subst j
    obtain ⟨hi2, rfl⟩ := intsOf_at hi
    have S := shape_card (w.take i) (shape_nothing h)
    refine rss_set 2 (ed_call K3 (as_d (vd 2) (as_d (vd 3) as_0)) ⟨h, w.getD i 0, _, rfl, S, h6, W.at hi2, rfl⟩) fun σ H G => ?_
    refine rss_nil ⟨_, rfl, ?_⟩
    rw [foldl_take (d := 0) hi2]
    exact G.wk
  · subst j
    rw [intsOf_len, List.take_length] at G
    exact rss_retD (vd 2)
theorem scCard : FnScope ["halls", "work"] ["halls", "work"] (defScope sCard) := ⟨rfl, rfl, rfl, by decide +kernel, rfl, by decide +kernel, by decide +kernel⟩
abbrev KCard (m : Md) := Kn m "card" ["halls", "work"] 3 (φHW fun h w => cardD (cardM h w))
theorem kn_card {m : Md} (T : Tx m) (K1 : KNeedHalls m) (K2 : KNeedWork m) (K3 : KCardOf m) (F : Df m "card" sCard ["halls", "work"]) : KCard m := by
  refine knS F scCard (fun ss r ⟨_, _, e, _⟩ => by rw [e]; rfl) fun f rt ss r H σ hφ hr nd G => ?_
  obtain ⟨h, w, rfl, h1, h6, W, hw, rfl⟩ := hφ
  refine rss_expr (ed_call K1 (as_d (vd 0) as_0) ⟨h, rfl, h1, h6, rfl⟩) fun H G => ?_
  refine rss_expr (ed_call K2 (as_d (vd 0) (as_d (vd 1) as_0)) ⟨h, w, rfl, h1, h6, W, by omega, rfl⟩) fun H G => ?_
  exact rss_retD (ed_call K3 (as_d (vd 0) (as_d (vd 1) as_0)) ⟨h, w, rfl, h1, h6, W, by omega, rfl⟩)
/-! ### through, behind, made -/
abbrev sThrough : Stmt := topS 36
abbrev sBehind : Stmt := topS 37
abbrev sMade : Stmt := topS 38
theorem scThrough : FnScope ["one", "crowd", "found", "last", "folk", "best", "first", "here"] ["one", "crowd"] (defScope sThrough) := ⟨rfl, rfl, rfl, by decide +kernel, rfl, by decide +kernel, by decide +kernel⟩
def φThrough (ss : List Sl) (r : Sl) : Prop := ∃ (h : Nat) (c : Card) (cr : List Int), ss = [.dat (cardD c), .dat (rowD cr)] ∧ h ≤ 6 ∧ Shape h c ∧ cr.length = h ∧ r = .lst ((throughM c cr).map PyData.int)
abbrev KThrough (m : Md) := Kn m "through" ["one", "crowd"] 1 φThrough
def bestD (c : Card) (cr : List Int) (last : Nat) : Nat → PyData
  | 0 => .none
  | k + 1 => .int (bestI c cr last k)
theorem rgDown (last : Nat) (h : last < 6) : RgC (last : Int) (0 - 1) (0 - 1) (last + 1) := by
  have : last = 0 ∨ last = 1 ∨ last = 2 ∨ last = 3 ∨ last = 4 ∨ last = 5 := by omega
  rcases this with rfl | rfl | rfl | rfl | rfl | rfl <;> exact ⟨by decide, by decide, by decide +kernel, by decide +kernel⟩
theorem kn_through {m : Md} (T : Tx m) (F : Df m "through" sThrough ["one", "crowd"]) : KThrough m := by
  refine knS F scThrough (fun ss r ⟨_, _, _, e, _⟩ => by rw [e]; rfl) fun f rt ss r H σ hφ hr nd G => ?_
  obtain ⟨h, c, cr, rfl, h6, S, hl, rfl⟩ := hφ
  have hu := hr.units
  have hc := S.len
  refine rss_setN 2 en_nil fun σ H G => ?_
  refine rss_forR1 3 (lenR (by rfl) T.len (vd 1)) (by omega) (by omega) (fun i Γ => Γ = [.dat (cardD c), .dat (rowD cr), .lst (((List.range i).map fun last => min (bestI c cr last last) (sumI cr last (last + 1))).map PyData.int), .un, .un, .un, .un, .un]) rfl (fun B' sB i Γ σ H hi j G => ?_) (fun B' sB Γ σ H j G => ?_) (by rfl) T.range
  · subst j
    have hi6 : i < 6 := by omega
    refine rss_unp (d1 := .int 0) (d2 := .none) 4 5 (ed_tup (ea_d ed_int (ea_d ed_non ea_0))) fun σ H G => ?_
    refine rss_forR3 (n := i + 1) 6 (vd 3) (ed_sub ed_int ed_int) (ed_sub ed_int ed_int) (rgDown i hi6) (fun k Γ => Γ = [.dat (cardD c), .dat (rowD cr), .lst (((List.range i).map fun last => min (bestI c cr last last) (sumI cr last (last + 1))).map PyData.int), .dat (.int (i : Nat)), .dat (.int (sumI cr i k)), .dat (bestD c cr i k), .un, .un]) rfl
      (fun B2 sB2 k Γ σ H hk j G => ?_) (fun B2 sB2 Γ σ H j G => ?_) (by rfl) T.range (pi := pi_range3 (by rfl) T.range ra_pa)
    · subst j
      have ef : (i : Int) + (k : Nat) * (0 - 1) = ((i - k : Nat) : Int) := by omega
      rw [ef] at G
      refine rss_set 7 (ed_add (vd 4) (ixI k (ixR (i - k) (vd 0) (vd 6) rfl (by omega)) (ed_sub (vd 3) (vd 6)) (by omega) (by rw [S.row (i - k) (by omega)]; omega))) fun σ H G => ?_
      refine rss_set (d := bestD c cr i (k + 1)) 5 ?_ fun σ H G => ?_
      · cases k with
        | zero =>
          exact (ed_if (d1 := .int (sumI cr i 0 + gi c i 0)) (d2 := .none) (et_isN (vd 5)) (fun _ => vd 7) (fun z => by cases z)).to rfl
        | succ k =>
          exact (ed_if (d1 := .none) (d2 := .int (min (bestI c cr i k) (sumI cr i (k + 1) + gi c (i - (k + 1)) (k + 1)))) (et_isN (vd 5)) (fun z => by cases z) (fun _ => ed_min2 rfl (by rfl) T.min (vd 5) (vd 7))).to rfl
      · refine rss_aug 4 (pip_of iop_add) rfl (ixI (i - k) (vd 1) (vd 6) rfl (by omega)) fun σ H G => ?_
        refine rss_nil ⟨_, rfl, G.wk⟩
    · subst j
      refine rss_app 2 rfl (ed_min2 rfl (by rfl) T.min (vd 5) (vd 4)) ?_ fun H G => ?_
      · refine smallL _ ?_
        rw [List.length_map, List.length_map, List.length_range]
        omega
      refine rss_nil ⟨_, rfl, ?_⟩
      rw [take_succ_map, List.map_append]
      exact (G.less sB2).wk
  · subst j
    exact rss_retL 2 rfl
theorem scBehind : FnScope ["crowd", "went", "found", "hall", "many"] ["crowd", "went"] (defScope sBehind) := ⟨rfl, rfl, rfl, by decide +kernel, rfl, by decide +kernel, by decide +kernel⟩
def φBehind (ss : List Sl) (r : Sl) : Prop := ∃ (cr went : List Int), ss = [.dat (rowD cr), .rls (went.map PyData.int)] ∧ went.length = cr.length ∧ cr.length ≤ 6 ∧ r = .dat (rowD (behindM cr went))
abbrev KBehind (m : Md) := Kn m "behind" ["crowd", "went"] 1 φBehind
theorem kn_behind {m : Md} (T : Tx m) (F : Df m "behind" sBehind ["crowd", "went"]) : KBehind m := by
  refine knS F scBehind (fun ss r ⟨_, _, e, _⟩ => by rw [e]; rfl) fun f rt ss r H σ hφ hr nd G => ?_
  obtain ⟨cr, went, rfl, hl, h6, rfl⟩ := hφ
  have hu := hr.units
  refine rss_setN 2 en_nil fun σ H G => ?_
  refine rss_enumT (ds := cr.map PyData.int) 3 4 (vd 0) (fun i Γ => Γ = [.dat (rowD cr), .rls (went.map PyData.int), .lst (((List.range i).map fun h => cr.getD h 0 - went.getD h 0 + (if h = 0 then 0 else went.getD (h - 1) 0)).map PyData.int), .un, .un]) rfl (fun B' sB i Γ σ H hi j G => ?_) (fun B' sB Γ σ H j G => ?_) (by rfl) T.enum
  · subst j
    rw [List.length_map] at hi
    rw [map_getD hi] at G
    refine rss_app (d := .int (cr.getD i 0 - went.getD i 0 + (if i = 0 then 0 else went.getD (i - 1) 0))) 2 rfl (ED.to (ed_add (ed_sub (vd 4) (ixL i (vr 1) (vd 3) rfl (by omega))) (ed_ifI (i1 := went.getD (i - 1) 0) (et_gt (vd 3) ed_int) (fun z => ixL (i - 1) (vr 1) (ed_sub (vd 3) ed_int) (by have := of_decide_eq_true z; omega) (by omega)) (fun _ => ed_int))) ?_) ?_ fun H G => ?_
    · congr 2
      by_cases hz : i = 0
      · rw [decide_eq_false (by omega), if_neg Bool.false_ne_true, if_pos hz]
      · rw [decide_eq_true (by omega), if_pos rfl, if_neg hz]
    · refine smallL _ ?_
      rw [List.length_map, List.length_map, List.length_range]
      omega
    refine rss_nil ⟨_, rfl, ?_⟩
    rw [take_succ_map, List.map_append]
    exact G.wk
  · subst j
    rw [List.length_map] at G
    exact rss_retD (ed_tupleL (by rfl) T.tuple (vl 2))
theorem scMade : FnScope ["one", "crowd"] ["one", "crowd"] (defScope sMade) := ⟨rfl, rfl, rfl, by decide +kernel, rfl, by decide +kernel, by decide +kernel⟩
def φMade (ss : List Sl) (r : Sl) : Prop := ∃ (h : Nat) (c : Card) (cr : List Int), ss = [.dat (cardD c), .dat (rowD cr)] ∧ 1 ≤ h ∧ h ≤ 6 ∧ Shape h c ∧ CardB c ∧ cr.length = h ∧ Crowd cr ∧ r = .dat (rowD (behindM cr (throughM c cr)))
abbrev KMade (m : Md) := Kn m "made" ["one", "crowd"] 2 φMade
theorem kn_made {m : Md} (T : Tx m) (K1 : KNeedCard m) (K2 : KNeedCrowd m) (K3 : KThrough m) (K4 : KBehind m) (F : Df m "made" sMade ["one", "crowd"]) : KMade m := by
  refine knS F scMade (fun ss r ⟨_, _, _, e, _⟩ => by rw [e]; rfl) fun f rt ss r H σ hφ hr nd G => ?_
  obtain ⟨h, c, cr, rfl, h1, h6, S, CB, hl, C, rfl⟩ := hφ
  refine rss_expr (ed_call K1 (as_d (vd 0) as_0) ⟨h, c, rfl, h1, h6, S, CB, rfl⟩) fun H G => ?_
  refine rss_expr (ed_call K2 (as_d (lenC (by rfl) T.len (vd 0)) (as_d (vd 1) as_0)) ⟨h, cr, by rw [S.len], hl, h6, C, rfl⟩) fun H G => ?_
  exact rss_retD (ed_call K4 (as_d (vd 1) (as_r (EN.er (en_call K3 (as_d (vd 0) (as_d (vd 1) as_0)) ⟨h, c, cr, rfl, h6, S, hl, rfl⟩)) as_0)) ⟨cr, throughM c cr, rfl, through_len c cr, by omega, rfl⟩)
end Dw
namespace Dw
open PySem PySem.Spec PyProof.Rows L2
abbrev sBoth : Stmt := topS 39
abbrev sJoined : Stmt := topS 40
abbrev sPower : Stmt := topS 41
abbrev sParts : Stmt := topS 43
abbrev sAlike : Stmt := topS 44
abbrev sParting : Stmt := topS 45
abbrev sEnough : Stmt := topS 47
abbrev sBetween : Stmt := topS 48
/-! ### both, joined -/
theorem scBoth : FnScope ["one", "other", "found", "row", "numbers", "place", "sums", "seam"] ["one", "other"] (defScope sBoth) := ⟨rfl, rfl, rfl, by decide +kernel, rfl, by decide +kernel, by decide +kernel⟩
def φBoth (ss : List Sl) (r : Sl) : Prop := ∃ (h : Nat) (a b : Card), ss = [.dat (cardD a), .dat (cardD b)] ∧ h ≤ 6 ∧ Shape h a ∧ Shape h b ∧ r = .dat (cardD (bothM a b))
abbrev KBoth (m : Md) := Kn m "both" ["one", "other"] 1 φBoth
def bothC (a b : Card) (row place : Nat) : Int := lmin ((List.range (place + 1)).map fun seam => gi a row seam + gi b (row + seam) (place - seam))
def bothR (a b : Card) (row : Nat) : List Int := (List.range (a.length - row)).map (bothC a b row)
theorem bothM_eq (a b : Card) : bothM a b = (List.range a.length).map (bothR a b) := rfl
theorem kn_both {m : Md} (T : Tx m) (F : Df m "both" sBoth ["one", "other"]) : KBoth m := by
  refine knS F scBoth (fun ss r ⟨_, _, _, e, _⟩ => by rw [e]; rfl) fun f rt ss r H σ hφ hr nd G => ?_
  obtain ⟨h, a, b, rfl, h6, S, S2, rfl⟩ := hφ
  have hu := hr.units
  have la := S.len
  have lb := S2.len
  refine rss_setN 2 en_nil fun σ H G => ?_
  refine rss_forR1 3 (lenC (by rfl) T.len (vd 0)) (by omega) (by omega) (fun i Γ => Γ = [.dat (cardD a), .dat (cardD b), .lst (((List.range i).map (bothR a b)).map rowD), .un, .un, .un, .un, .un]) rfl (fun B' sB i Γ σ H hi j G => ?_) (fun B' sB Γ σ H j G => ?_) (by rfl) T.range
  · subst j
    refine rss_setN 4 en_nil fun σ H G => ?_
    refine rss_forR1 (m := (a.length - i : Nat)) 5 (ED.to (ed_sub (lenC (by rfl) T.len (vd 0)) (vd 3)) (by congr 1; omega)) (by omega) (by omega) (fun k Γ => Γ = [.dat (cardD a), .dat (cardD b), .lst (((List.range i).map (bothR a b)).map rowD), .dat (.int (i : Nat)), .lst (((List.range k).map (bothC a b i)).map PyData.int), .un, .un, .un]) rfl (fun B2 sB2 k Γ σ H hk j G => ?_) (fun B2 sB2 Γ σ H j G => ?_) (by rfl) T.range
    · subst j
      rw [Int.toNat_natCast] at hk
      refine rss_setLc (ds := ((List.range (k + 1)).map fun seam => gi a i seam + gi b (i + seam) (k - seam)).map PyData.int) 6 (ENc.to (lc_R (own := [("seam", 7)]) (m := ((k + 1 : Nat) : Int)) (out := fun s => .int (gi a i s + gi b (i + s) (k - s))) 7 (ED.to (ed_add (vd 5) ed_int) (by congr 1)) (by omega) (by omega) (small _ (by omega)) (blkOk_by (N := ["one", "other", "found", "row", "numbers", "place", "sums", "seam"]) (sc := defScope sBoth) (by decide +kernel)) ?_ T.range) ?_) fun σ H G => ?_
      · intro s0 H0 C cl fp s σ' H' hs G
        rw [Int.toNat_natCast] at hs
        exact ed_add (ixI s (ixR i (vd 0) (vd 3) rfl (by omega)) (vd 7) rfl (by rw [S.row i (by omega)]; omega)) (ixI (k - s) (ixR (i + s) (vd 1) (ed_add (vd 3) (vd 7)) (by omega) (by omega)) (ed_sub (vd 5) (vd 7)) (by omega) (by rw [S2.row (i + s) (by omega)]; omega))
      · rw [Int.toNat_natCast, List.map_map]
        rfl
      · refine rss_app (d := .int (bothC a b i k)) 4 rfl (ed_minL rfl (by rfl) T.min (vl 6) ?_) ?_ fun H G => ?_
        · rw [List.length_map, List.length_range]; omega
        · refine smallL _ ?_
          rw [List.length_map, List.length_map, List.length_range]
          omega
        refine rss_nil ⟨_, rfl, ?_⟩
        rw [take_succ_map, List.map_append]
        exact G.wk
    · subst j
      rw [Int.toNat_natCast] at G
      refine rss_app (d := rowD (bothR a b i)) 2 rfl (ed_tupleL (by rfl) T.tuple (vl 4)) ?_ fun H G => ?_
      · refine smallL _ ?_
        rw [List.length_map, List.length_map, List.length_range]
        omega
      refine rss_nil ⟨_, rfl, ?_⟩
      rw [take_succ_map, List.map_append]
      exact (G.less sB2).wk
  · subst j
    rw [Int.toNat_natCast] at G
    exact rss_retD (ed_tupleL (by rfl) T.tuple (vl 2))
theorem scJoined : FnScope ["one", "other"] ["one", "other"] (defScope sJoined) := ⟨rfl, rfl, rfl, by decide +kernel, rfl, by decide +kernel, by decide +kernel⟩
def φTwo (res : Card → Card → PyData) (ss : List Sl) (r : Sl) : Prop := ∃ (h : Nat) (a b : Card), ss = [.dat (cardD a), .dat (cardD b)] ∧ 1 ≤ h ∧ h ≤ 6 ∧ Shape h a ∧ Shape h b ∧ CardB a ∧ CardB b ∧ r = .dat (res a b)
abbrev KJoined (m : Md) := Kn m "joined" ["one", "other"] 2 (φTwo fun a b => cardD (bothM a b))
theorem kn_joined {m : Md} (T : Tx m) (K1 : KNeedCard m) (K2 : KBoth m) (F : Df m "joined" sJoined ["one", "other"]) : KJoined m := by
  refine knS F scJoined (fun ss r ⟨_, _, _, e, _⟩ => by rw [e]; rfl) fun f rt ss r H σ hφ hr nd G => ?_
  obtain ⟨h, a, b, rfl, h1, h6, S, S2, CB, CB2, rfl⟩ := hφ
  have hu := hr.units
  refine rss_expr (ed_call K1 (as_d (vd 0) as_0) ⟨h, a, rfl, h1, h6, S, CB, rfl⟩) fun H G => ?_
  refine rss_expr (ed_call K1 (as_d (vd 1) as_0) ⟨h, b, rfl, h1, h6, S2, CB2, rfl⟩) fun H G => ?_
  refine rss_ifF (et_neI hu (lenC (by rfl) T.len (vd 0)) (lenC (by rfl) T.len (vd 1))) ?_ fun H G => ?_
  · rw [S.len, S2.len, decide_eq_true rfl]; rfl
  exact rss_retD (ed_call K2 (as_d (vd 0) (as_d (vd 1) as_0)) ⟨h, a, b, rfl, h6, S, S2, rfl⟩)
end Dw
/-! Dw: min of a list of alike data -/
namespace Dw
open PySem PySem.Spec PyProof.Rows L2
theorem getAll {α β : Type} {R : α → β → Prop} : ∀ {xs : List α} {ys : List β}, Paired R xs ys → ∀ {i : Nat} {y : β}, ys[i]? = some y → ∃ x, xs[i]? = some x ∧ R x y
  | _, _, .nil, i, y, h => by simp at h
  | _, _, .cons (a := a) h hs, 0, y, e => by
    simp at e
    subst e
    exact ⟨_, rfl, h⟩
  | _, _, .cons h hs, i + 1, y, e => by
    obtain ⟨x, e2, q⟩ := getAll hs (i := i) (y := y) (by simpa using e)
    exact ⟨x, by simpa using e2, q⟩
theorem minD_mem (x : PyData) : ∀ (xs : List PyData), PySem.W.minD x xs ∈ x :: xs := by
  intro xs
  unfold PySem.W.minD
  induction xs generalizing x with
  | nil => simp
  | cons y ys ih =>
    rw [List.foldl_cons]
    by_cases h : PySem.W.dataLt y x = true
    · rw [if_pos h]
      exact List.mem_cons_of_mem _ (ih y)
    · rw [if_neg h]
      rcases List.mem_cons.mp (ih x) with e | e
      · rw [e]
        exact List.mem_cons_self
      · exact List.mem_cons_of_mem _ (List.mem_cons_of_mem _ e)
section
variable {X : Cx} {B H : Hp} {σ : L2.St} {Γ : List Sl} {e : Expr} {pos p : Pos} {d : PyData} {ds : List PyData}
theorem dp_readsAt {pins : List (Addr × Obj)} {s : Shared} (I : Inv X pins σ H s) {d : PyData} {v : V} {u : Value} (h : Dp X.K H v d) (r : RelV v u) : ∃ as, Reads s.heap u d as := Dp.reads I d v u h r
theorem cr_minD (hc : X.calm = true) : CallR X (.builtin "min") (fun vs H Q => ∃ (a : Addr) (xs : List V) (d : PyData) (ds : List PyData), vs = [V.ref a] ∧ SqL X.K H a xs ∧ ImAll H (d :: ds) xs ∧ PySem.W.AlikeAll (d :: ds) ∧ X.A.units + 1 + PyData.depthAll (d :: ds) < cLine ∧ ∀ v, Im H (PySem.W.minD d ds) v → Q v H) := by
  intro pins s σ H vs us Q I r h
  obtain ⟨a, xs, d, ds, rfl, hs, ha, hk, hu, q⟩ := h
  obtain ⟨its, rv, hl, _⟩ := I.list hs
  rw [Vals.ref1 r]
  obtain ⟨as, hr⟩ := Dp.readsAll I _ _ _ (ImAll.dp (K := X.K) _ _ ha) rv
  refine PySem.W.min_list_data (I.ok.hd hc) hl.isList (x := d) (xs := ds) hr hk hu fun i v h' tk bs e1 e2 k => ?_
  obtain ⟨x, e3, e4⟩ := getAll rv (i := i) (y := v) (by simpa using e1)
  have hx : i < xs.length := (List.getElem?_eq_some_iff.mp e3).1
  have hlen := ha.length
  obtain ⟨x', f1, f2⟩ := ha.get (List.getElem?_eq_getElem (show i < (d :: ds).length by omega))
  rw [e3] at f1
  cases f1
  have I' : Inv X pins σ H { s with heap := h', toks := tk } := I.kept k
  obtain ⟨cs, r2⟩ := Dp.reads I' _ _ _ (Im.dp (K := X.K) _ _ f2) e4
  obtain ⟨e5, _⟩ := Reads.unique r2 _ _ e2
  exact ⟨x, H, I', e4, q x (by rw [← e5]; exact f2)⟩
theorem ed_minD (hc : X.calm = true) (hg : Gl X "min") (hm : X.mg "min" = none) (ha : ER X e σ H (d :: ds)) (hk : PySem.W.AlikeAll (d :: ds)) (hu : X.A.units + 1 + PyData.depthAll (d :: ds) < cLine) (hst : starEach [e] X.env = (false, eval e X.env) :: starEach [] X.env := by rfl) : ED X (.Call (.Name "min" p) [e] [] pos) σ H (PySem.W.minD d ds) :=
  ev_callB (cr_minD hc) hg hm boot_min (ea_r ha ea_0 hst) (fun H1 H2 vs Q k q => by
    obtain ⟨v, rfl, l, xs, rfl, h1, h2⟩ := pd1 k
    exact ⟨l, xs, d, ds, rfl, SqL.of h1, h2, hk, hu, fun v r => q v H2 (Same.refl _) r⟩) st_D hst
end
end Dw
namespace Dw
open PySem PySem.Spec PyProof.Rows L2
/-! ### shapes of data -/
theorem lay_all {ds : List PyData} (h : ∀ d ∈ ds, d.canLay0 = true) : PyData.canLayAll0 ds = true := by
  induction ds with
  | nil => rfl
  | cons d ds ih =>
    unfold PyData.canLayAll0
    rw [h d List.mem_cons_self, ih fun x hx => h x (List.mem_cons_of_mem _ hx)]
    rfl
theorem depth_all {ds : List PyData} {n : Nat} (h : ∀ d ∈ ds, d.depth ≤ n) : PyData.depthAll ds ≤ n := by
  induction ds with
  | nil => exact Nat.zero_le _
  | cons d ds ih =>
    unfold PyData.depthAll
    exact Nat.max_le.mpr ⟨h d List.mem_cons_self, ih fun x hx => h x (List.mem_cons_of_mem _ hx)⟩
structure Plain (n : Nat) (d : PyData) : Prop where
  lay : d.canLay0 = true
  dep : d.depth ≤ n
theorem Plain.shaped {n : Nat} {d : PyData} (p : Plain n d) (h : n ≤ 64) : SeqAt.shaped d = true := by
  unfold SeqAt.shaped
  rw [p.lay, decide_eq_true (Nat.le_trans p.dep h)]
  rfl
theorem Plain.up {n m : Nat} {d : PyData} (p : Plain n d) (h : n ≤ m) : Plain m d := ⟨p.lay, Nat.le_trans p.dep h⟩
theorem plain_int {n : Nat} (i : Int) : Plain n (.int i) := ⟨by unfold PyData.canLay0; rfl, by unfold PyData.depth; omega⟩
theorem plain_none {n : Nat} : Plain n .none := ⟨by unfold PyData.canLay0; rfl, by unfold PyData.depth; omega⟩
theorem plain_bool {n : Nat} (b : Bool) : Plain n (.bool b) := ⟨by unfold PyData.canLay0; rfl, by unfold PyData.depth; omega⟩
theorem plain_str {n : Nat} {x : Str} (h : PyData.strOk x = true) : Plain n (.str x) := ⟨by unfold PyData.canLay0; exact h, by unfold PyData.depth; omega⟩
theorem plain_tup {n : Nat} {ds : List PyData} (h : ∀ d ∈ ds, Plain n d) : Plain (n + 1) (.tuple ds) := ⟨by unfold PyData.canLay0; exact lay_all fun d hd => (h d hd).lay, by unfold PyData.depth; exact Nat.succ_le_succ (depth_all fun d hd => (h d hd).dep)⟩
theorem plain_list {n : Nat} {ds : List PyData} (h : ∀ d ∈ ds, Plain n d) : Plain (n + 1) (.list ds) := ⟨by unfold PyData.canLay0; exact lay_all fun d hd => (h d hd).lay, by unfold PyData.depth; exact Nat.succ_le_succ (depth_all fun d hd => (h d hd).dep)⟩
theorem plain_row (r : List Int) : Plain 1 (rowD r) := plain_tup fun d hd => by
  obtain ⟨x, _, rfl⟩ := List.mem_map.mp hd
  exact plain_int x
theorem plain_card (c : Card) : Plain 2 (cardD c) := plain_tup fun d hd => by
  obtain ⟨x, _, rfl⟩ := List.mem_map.mp hd
  exact plain_row x
theorem plain_txt {w : List Nat} (h : Word 6 w) {n : Nat} : Plain n (.str (txt w)) := plain_str (by
  unfold PyData.strOk
  show (w.map (· + 49)).toArray.all _ = true
  rw [List.all_toArray, List.all_eq_true]
  intro x hx
  obtain ⟨d, hd, rfl⟩ := List.mem_map.mp hx
  have := h d hd
  exact decide_eq_true (by omega))
section
variable {X : Cx} {B H : Hp} {σ : L2.St} {Γ : List Sl} {c : Expr} {pos : Pos} {rest body orelse : List Stmt} {D : Ends}
/-- if, and then on in one line -/
theorem rss_ifJ {k : Bool} (J : List Sl → Prop) (hc : ET X c σ H k) (h1 : ∀ H', Good B H' σ Γ → k = true → RSs X body { D with nx := fun σ H => ∃ Γ', J Γ' ∧ Good B H σ Γ' } σ H') (h2 : ∀ H', Good B H' σ Γ → k = false → RSs X orelse { D with nx := fun σ H => ∃ Γ', J Γ' ∧ Good B H σ Γ' } σ H')
    (h3 : ∀ Γ' σ H, J Γ' → Good B H σ Γ' → RSs X rest D σ H) (G : Good B H σ Γ := by assumption) : RSs X (.If c body orelse pos :: rest) D σ H :=
  rss_if hc (fun H' G z => (h1 H' G z).imp (fun σ H ⟨Γ', j, g⟩ => h3 Γ' σ H j g) (fun _ _ q => q) (fun _ _ q => q) (fun _ _ q => q)) (fun H' G z => (h2 H' G z).imp (fun σ H ⟨Γ', j, g⟩ => h3 Γ' σ H j g) (fun _ _ q => q) (fun _ _ q => q) (fun _ _ q => q)) G
end
/-! ### power -/
theorem scPower : FnScope ["one", "times", "found"] ["one", "times"] (defScope sPower) := ⟨rfl, rfl, rfl, by decide +kernel, rfl, by decide +kernel, by decide +kernel⟩
def φPower (ss : List Sl) (r : Sl) : Prop := ∃ (h t : Nat) (c : Card), ss = [.dat (cardD c), .dat (.int t)] ∧ h ≤ 6 ∧ Shape h c ∧ r = .dat (cardD (powerM c t))
abbrev KPower (m : Md) := Kn m "power" ["one", "times"] 2 φPower
theorem kn_power {m : Md} (T : Tx m) (K1 : KNothing m) (K2 : KBoth m) (F : Df m "power" sPower ["one", "times"]) : KPower m := by
  refine knS F scPower (fun ss r ⟨_, _, _, e, _⟩ => by rw [e]; rfl) fun f rt ss r H σ hφ hr nd G => ?_
  obtain ⟨h, t, c, rfl, h6, S, rfl⟩ := hφ
  have hu := hr.units
  refine rss_set 2 (ed_call K1 (as_d (lenC (by rfl) T.len (vd 0)) as_0) ⟨c.length, rfl, by rw [S.len]; exact h6, rfl⟩) fun σ H G => ?_
  refine rss_while (fun n Γ => ∃ (f o : Card), Γ = [.dat (cardD o), .dat (.int (n : Nat)), .dat (cardD f)] ∧ Shape h f ∧ Shape h o ∧ powM f o n = powerM c t) t ⟨nothingM c.length, c, rfl, by rw [S.len]; exact shape_nothing h, S, rfl⟩ fun B' sB n Γ σ H j G => ?_
  obtain ⟨f, o, rfl, Sf, So, hp⟩ := j
  refine ⟨_, et_gt (vd 1) ed_int, fun hk H G => ?_, fun hk H G => ?_⟩
  · have hn : 0 < n := by have := of_decide_eq_true hk; omega
    have hw : powM f o n = powM (if n % 2 = 1 then bothM f o else f) (bothM o o) (n / 2) := by
      rw [powM, dif_neg (by omega)]
    refine rss_ifJ (fun Γ => ∃ f', Γ = [.dat (cardD o), .dat (.int (n : Nat)), .dat (cardD f')] ∧ Shape h f' ∧ (if n % 2 = 1 then bothM f o else f) = f') (et_eqI hu (ed_mod (vd 1) ed_int (by decide)) ed_int) (fun H G hk2 => ?_) (fun H G hk2 => ?_) fun Γ σ H j G => ?_
    · have e2 := of_decide_eq_true hk2
      refine rss_set 2 (ed_call K2 (as_d (vd 2) (as_d (vd 0) as_0)) ⟨h, f, o, rfl, h6, Sf, So, rfl⟩) fun σ H G => ?_
      exact rss_nil ⟨_, ⟨_, rfl, shape_both Sf, by rw [if_pos (by omega)]⟩, G.wk⟩
    · have e2 := of_decide_eq_false hk2
      exact rss_nil ⟨_, ⟨_, rfl, Sf, by rw [if_neg (by omega)]⟩, G.wk⟩
    · obtain ⟨f', rfl, Sf', ef⟩ := j
      refine rss_set 0 (ed_call K2 (as_d (vd 0) (as_d (vd 0) as_0)) ⟨h, o, o, rfl, h6, So, So, rfl⟩) fun σ H G => ?_
      refine rss_augC 1 iop_fdiv rfl ed_int ⟨by decide, by decide⟩ fun σ H G => ?_
      refine rss_nil ⟨n / 2, _, by omega, ⟨f', bothM o o, rfl, Sf', shape_both So, ?_⟩, G.wk⟩
      rw [← hp, hw, ef]
  · have hn : n = 0 := by have := of_decide_eq_false hk; omega
    subst hn
    refine rss_retD (ED.to (vd 2) ?_)
    rw [← hp, powM, dif_pos rfl]
end Dw
namespace Dw
open PySem PySem.Spec PyProof.Rows L2
/-! ### enough -/
theorem scEnough : FnScope ["halls", "work", "counts", "found", "door", "ahead"] ["halls", "work"] (defScope sEnough) := ⟨rfl, rfl, rfl, by decide +kernel, rfl, by decide +kernel, by decide +kernel⟩
theorem enoughS_len (s : List Int × List Int) (d : Nat) : (enoughS s d).1.length = s.1.length ∧ (enoughS s d).2.length = s.2.length := ⟨by unfold enoughS; simp, by unfold enoughS; simp⟩
theorem enoughF_len (w : List Nat) : ∀ s : List Int × List Int, (w.foldl enoughS s).1.length = s.1.length ∧ (w.foldl enoughS s).2.length = s.2.length := by
  induction w with
  | nil => intro s; exact ⟨rfl, rfl⟩
  | cons d w ih =>
    intro s
    rw [List.foldl_cons]
    obtain ⟨a, b⟩ := ih (enoughS s d)
    obtain ⟨a', b'⟩ := enoughS_len s d
    exact ⟨a.trans a', b.trans b'⟩
def enoughM (h : Nat) (w : List Nat) : List Int := (w.foldl enoughS (List.replicate h 0, List.replicate h 0)).2
abbrev KEnough (m : Md) := Kn m "enough" ["halls", "work"] 3 (φHW fun h w => rowD (enoughM h w))
theorem kn_enough {m : Md} (T : Tx m) (K1 : KNeedHalls m) (K2 : KNeedWork m) (K4 : KDoorsOf m) (F : Df m "enough" sEnough ["halls", "work"]) : KEnough m := by
  refine knS F scEnough (fun ss r ⟨_, _, e, _⟩ => by rw [e]; rfl) fun f rt ss r H σ hφ hr nd G => ?_
  obtain ⟨h, w, rfl, h1, h6, W, hw, rfl⟩ := hφ
  refine rss_expr (ed_call K1 (as_d (vd 0) as_0) ⟨h, rfl, h1, h6, rfl⟩) fun H G => ?_
  refine rss_expr (ed_call K2 (as_d (vd 0) (as_d (vd 1) as_0)) ⟨h, w, rfl, h1, h6, W, by omega, rfl⟩) fun H G => ?_
  have rep : ∀ {X : Cx} {σ : L2.St} {H : Hp} {a b : Expr} {pos : Pos}, ER X a σ H [PyData.int 0] → ED X b σ H (.int (h : Nat)) → EN X (.BinOp a .Mult b pos) σ H ((List.replicate h (0 : Int)).map PyData.int) := fun ha hb =>
    (ev_rep1 ha hb (by omega) (by omega) (by rw [Int.toNat_natCast]; exact small _ (by omega))).to (by rw [Int.toNat_natCast, rep_int])
  refine rss_par 2 3 (pN (rep (en_lst (ds := [.int 0]) (ea_d ed_int ea_0)).er (vd 0))) (pN (rep (en_lst (ds := [.int 0]) (ea_d ed_int ea_0)).er (vd 0))) fun σ H G => ?_
  refine rss_forL 4 (en_call K4 (as_d (vd 1) as_0) ⟨w, rfl, W.up h6, by omega, rfl⟩) (fun i Γ => Γ = [.dat (.int h), .dat (.str (txt w)), .lst (((w.take i).foldl enoughS (List.replicate h 0, List.replicate h 0)).1.map PyData.int), .lst (((w.take i).foldl enoughS (List.replicate h 0, List.replicate h 0)).2.map PyData.int), .un, .un]) rfl (fun B' sB i d Γ σ H hi j G => ?_) (fun B' sB Γ σ H j G => ?_)
  · subst j
    obtain ⟨hi2, rfl⟩ := intsOf_at hi
    obtain ⟨l1, l2⟩ := enoughF_len (w.take i) (List.replicate h 0, List.replicate h 0)
    generalize he : (w.take i).foldl enoughS (List.replicate h 0, List.replicate h 0) = s at G l1 l2
    have hd := W.at hi2
    simp only [List.length_replicate] at l1 l2
    generalize hdd : w.getD i 0 = d at G hd
    refine rss_augIx (m := s.1.getD d 0) 2 d (pip_of iop_add) rfl (vd 4) ed_int rfl (map_at (by omega)) fun H G => ?_
    rw [setInt] at G
    refine rss_set (d := .int (if d = 0 then 0 else (s.1.set d (s.1.getD d 0 + 1)).getD (d - 1) 0)) 5 (ED.to (ed_ifI (i1 := (s.1.set d (s.1.getD d 0 + 1)).getD (d - 1) 0) (et_gt (vd 4) ed_int) (fun z => ixL (d - 1) (vl 2) (ed_sub (vd 4) ed_int) (by have := of_decide_eq_true z; omega) (by rw [List.length_set]; omega)) (fun _ => ed_int)) ?_) fun σ H G => ?_
    · congr 1
      by_cases hz : d = 0
      · rw [decide_eq_false (by omega), if_neg Bool.false_ne_true, if_pos hz]
      · rw [decide_eq_true (by omega), if_pos rfl, if_neg hz]
    refine rss_setIx 3 d rfl (vd 4) (ed_max2 rfl (by rfl) T.max (ixL d (vl 3) (vd 4) rfl (by omega)) (ed_sub (ixL d (vl 2) (vd 4) rfl (by rw [List.length_set]; omega)) (vd 5))) rfl ?_ fun H G => ?_
    · rw [List.length_map]; omega
    rw [setInt] at G
    refine rss_nil ⟨_, rfl, ?_⟩
    rw [foldl_take (d := 0) hi2, he, hdd]
    exact G.wk
  · subst j
    rw [intsOf_len, List.take_length] at G
    exact rss_retD (ed_tupleL (by rfl) T.tuple (vl 3))
/-! ### between -/
theorem scBetween : FnScope ["crowd", "goal", "found", "more", "here", "there"] ["crowd", "goal"] (defScope sBetween) := ⟨rfl, rfl, rfl, by decide +kernel, rfl, by decide +kernel, by decide +kernel⟩
def φBetween (ss : List Sl) (r : Sl) : Prop := ∃ (cr : List Int), ss = [.dat (rowD cr), .dat (rowD cr)] ∧ 1 ≤ cr.length ∧ cr.length ≤ 6 ∧ Crowd cr ∧ r = .dat (rowD (List.replicate cr.length 0))
abbrev KBetween (m : Md) := Kn m "between" ["crowd", "goal"] 3 φBetween
theorem rep_succ (n : Nat) : List.replicate (n + 1) (0 : Int) = List.replicate n 0 ++ [0] := List.replicate_succ'
theorem kn_between {m : Md} (T : Tx m) (K1 : KNeedAny m) (F : Df m "between" sBetween ["crowd", "goal"]) : KBetween m := by
  refine knS F scBetween (fun ss r ⟨_, e, _⟩ => by rw [e]; rfl) fun f rt ss r H σ hφ hr nd G => ?_
  obtain ⟨cr, rfl, h1, h6, C, rfl⟩ := hφ
  have hu := hr.units
  refine rss_expr (ed_call K1 (as_d (vd 0) as_0) ⟨cr, rfl, h1, h6, C, rfl⟩) fun H G => ?_
  refine rss_expr (ed_call K1 (as_d (vd 1) as_0) ⟨cr, rfl, h1, h6, C, rfl⟩) fun H G => ?_
  refine rss_ifF (et_neI hu (lenR (by rfl) T.len (vd 0)) (lenR (by rfl) T.len (vd 1))) (by rw [decide_eq_true rfl]; rfl) fun H G => ?_
  refine rss_par 2 3 (pN en_nil) (pD ed_int) fun σ H G => ?_
  refine rss_zipT (ds := cr.map PyData.int) (es := cr.map PyData.int) 4 5 (vd 0) (vd 1) rfl (fun i Γ => Γ = [.dat (rowD cr), .dat (rowD cr), .lst ((List.replicate i (0 : Int)).map PyData.int), .dat (.int 0), .un, .un]) rfl (fun B' sB i Γ σ H hi j G => ?_) (fun B' sB Γ σ H j G => ?_) (by rfl) T.zip (pi := RZ.pi_zipA (by rfl) T.zip ra_pa)
  · subst j
    rw [List.length_map] at hi
    rw [map_getD hi] at G
    refine rss_aug 3 (pip_of iop_add) rfl (ed_sub (vd 4) (vd 5)) fun σ H G => ?_
    have e0 : (0 : Int) + (cr.getD i 0 - cr.getD i 0) = 0 := by omega
    rw [e0] at G
    refine rss_app 2 rfl (vd 3) ?_ fun H G => ?_
    · refine smallL _ ?_
      rw [List.length_map, List.length_replicate]
      omega
    refine rss_nil ⟨_, rfl, ?_⟩
    rw [rep_succ, List.map_append]
    exact G.wk
  · subst j
    rw [List.length_map] at G
    refine rss_retD (ED.to (ed_if (d2 := .none) (et_ge (ed_minL rfl (by rfl) T.min (vl 2) ?_) ed_int) (fun _ => ed_tupleL (by rfl) T.tuple (vl 2)) (fun _ => ed_non)) ?_)
    · rw [List.length_replicate]; omega
    · have e1 := lmin_mem (xs := List.replicate cr.length (0 : Int)) (by rw [List.length_replicate]; omega)
      have e2 := List.eq_of_mem_replicate e1
      rw [e2]
      rfl
/-! ### first_parting, alike, parting -/
def pairD (f : Int) (r : Nat) : PyData := .tuple [.int f, .int (r : Nat)]
def pPlace (x y : List Int) (row k : Nat) : List PyData := if x.getD k 0 = y.getD k 0 then [] else [pairD (min (x.getD k 0) (y.getD k 0) + 1) row]
def pRow (x y : List Int) (row k : Nat) : List PyData := (List.range k).flatMap (pPlace x y row)
def pAll (a b : Card) (k : Nat) : List PyData := (List.range k).flatMap fun row => pRow (a.getD row []) (b.getD row []) row (a.getD row []).length
def partRes (h : Nat) : List PyData → PyData
  | [] => .none
  | d :: ds => match PySem.W.minD d ds with
    | .tuple [.int f, .int r] => .tuple ((List.replicate r.toNat (.int 0) ++ [.int f]) ++ List.replicate (h - r - 1).toNat (.int 0))
    | _ => .none
def partingM (a b : Card) : PyData := partRes a.length (pAll a b a.length)
theorem range_flat {β : Type} (g : Nat → List β) (k : Nat) : (List.range (k + 1)).flatMap g = (List.range k).flatMap g ++ g k := by
  rw [List.range_succ, List.flatMap_append]
  simp
theorem flat_len {β : Type} (g : Nat → List β) (c : Nat) : ∀ (k : Nat), (∀ i, i < k → (g i).length ≤ c) → ((List.range k).flatMap g).length ≤ k * c := by
  intro k
  induction k with
  | zero => intro _; simp
  | succ k ih =>
    intro h
    rw [range_flat, List.length_append, Nat.succ_mul]
    have := ih fun i hi => h i (by omega)
    have := h k (by omega)
    omega
theorem pRow_len (x y : List Int) (row k : Nat) : (pRow x y row k).length ≤ k := by
  have := flat_len (pPlace x y row) 1 k fun i _ => by unfold pPlace; split <;> simp
  unfold pRow
  omega
theorem pAll_mem {a b : Card} {k : Nat} {d : PyData} (h : d ∈ pAll a b k) : ∃ (f : Int) (r : Nat), r < k ∧ d = pairD f r := by
  unfold pAll at h
  obtain ⟨row, hr, h⟩ := List.mem_flatMap.mp h
  unfold pRow at h
  obtain ⟨p, _, h⟩ := List.mem_flatMap.mp h
  unfold pPlace at h
  split at h
  · cases h
  · rw [List.mem_singleton] at h
    exact ⟨_, row, List.mem_range.mp hr, h⟩
theorem partRes_at {h r : Nat} {f : Int} {d : PyData} {ds : List PyData} (e : PySem.W.minD d ds = pairD f r) : partRes h (d :: ds) = .tuple ((List.replicate (r : Int).toNat (.int 0) ++ [.int f]) ++ List.replicate ((h : Int) - (r : Int) - 1).toNat (.int 0)) := by
  simp only [partRes]
  rw [e]
  rfl
theorem scParts : FnScope ["one", "other", "found", "row", "numbers", "here", "there", "folk"] ["one", "other"] (defScope sParts) := ⟨rfl, rfl, rfl, by decide +kernel, rfl, by decide +kernel, by decide +kernel⟩
def φParts (ss : List Sl) (r : Sl) : Prop := ∃ (h : Nat) (a b : Card), ss = [.dat (cardD a), .dat (cardD b)] ∧ h ≤ 6 ∧ Shape h a ∧ Shape h b ∧ r = .dat (partingM a b)
abbrev KParts (m : Md) := Kn m "first_parting" ["one", "other"] 1 φParts
theorem kn_parts {m : Md} (T : Tx m) (F : Df m "first_parting" sParts ["one", "other"]) : KParts m := by
  refine knS F scParts (fun ss r ⟨_, _, _, e, _⟩ => by rw [e]; rfl) fun f rt ss r H σ hφ hr nd G => ?_
  obtain ⟨h, a, b, rfl, h6, S, S2, rfl⟩ := hφ
  have hu := hr.units
  have la := S.len
  have lb := S2.len
  refine rss_setN 2 en_nil fun σ H G => ?_
  refine rss_enumT (ds := a.map rowD) 3 4 (vd 0) (fun i Γ => Γ = [.dat (cardD a), .dat (cardD b), .lst (pAll a b i), .un, .un, .un, .un, .un]) rfl (fun B' sB i Γ σ H hi j G => ?_) (fun B' sB Γ σ H j G => ?_) (by rfl) T.enum
  · subst j
    rw [List.length_map] at hi
    rw [map_getDR hi] at G
    have hrow := S.row i (by omega)
    have hrow2 := S2.row i (by omega)
    have hlA : (pAll a b i).length ≤ i * 6 := flat_len _ 6 i fun r hr => by
      have := pRow_len (a.getD r []) (b.getD r []) r (a.getD r []).length
      have := S.row r (by omega)
      omega
    have eA : pAll a b (i + 1) = pAll a b i ++ pRow (a.getD i []) (b.getD i []) i (a.getD i []).length := range_flat _ _
    generalize hx : a.getD i [] = x at G hrow eA
    generalize hy : b.getD i [] = y at hrow2 eA
    refine rss_zipT (ds := x.map PyData.int) (es := y.map PyData.int) 5 6 (vd 4) (ED.to (ixR i (vd 1) (vd 3) rfl (by omega)) (by rw [hy]; rfl)) (by simp; omega) (fun k Γ => Γ = [.dat (cardD a), .dat (cardD b), .lst (pAll a b i ++ pRow x y i k), .dat (.int (i : Nat)), .dat (rowD x), .un, .un, .un]) ?_ (fun B2 sB2 k Γ σ H hk j G => ?_) (fun B2 sB2 Γ σ H j G => ?_) (by rfl) T.zip (pi := RZ.pi_zipA (by rfl) T.zip ra_pa)
    · show _ = [Sl.dat (cardD a), .dat (cardD b), .lst (pAll a b i ++ []), .dat (.int (i : Nat)), .dat (rowD x), .un, .un, .un]
      rw [List.append_nil]
      rfl
    · subst j
      rw [List.length_map] at hk
      rw [map_getD hk, map_getD (show k < y.length by omega)] at G
      have eR : pRow x y i (k + 1) = pRow x y i k ++ pPlace x y i k := range_flat _ _
      refine rss_ifJ (fun Γ => Γ = [.dat (cardD a), .dat (cardD b), .lst (pAll a b i ++ pRow x y i (k + 1)), .dat (.int (i : Nat)), .dat (rowD x), .un, .un, .un]) (et_neI hu (vd 5) (vd 6)) (fun H G hne => ?_) (fun H G hne => ?_) fun Γ σ H j G => rss_nil ⟨_, j, G⟩
      · have hne' : x.getD k 0 ≠ y.getD k 0 := fun z => by rw [decide_eq_true z] at hne; cases hne
        refine rss_app (d := pairD (min (x.getD k 0) (y.getD k 0) + 1) i) 2 rfl (ed_tup (ds := [.int _, .int _]) (ea_d (ed_add (ed_min2 rfl (by rfl) T.min (vd 5) (vd 6)) ed_int) (ea_d (vd 3) ea_0))) ?_ fun H G => ?_
        · refine smallL _ ?_
          rw [List.length_append]
          have := pRow_len x y i k
          omega
        refine rss_nil ⟨_, rfl, ?_⟩
        rw [eR, ← List.append_assoc, pPlace, if_neg hne']
        exact G.wk
      · have he' : x.getD k 0 = y.getD k 0 := Decidable.byContradiction fun z => by rw [decide_eq_false z] at hne; cases hne
        refine rss_nil ⟨_, rfl, ?_⟩
        rw [eR, ← List.append_assoc, pPlace, if_pos he', List.append_nil]
        exact G.wk
    · subst j
      rw [List.length_map] at G
      refine rss_nil ⟨_, rfl, ?_⟩
      rw [eA]
      exact (G.less sB2).wk
  · subst j
    rw [List.length_map] at G
    have hm : ∀ d ∈ pAll a b a.length, ∃ (f : Int) (r : Nat), r < a.length ∧ d = pairD f r := fun d hd => pAll_mem hd
    unfold partingM
    generalize hA : pAll a b a.length = A at G hm
    have pl : ∀ d ∈ A, Plain 1 d := fun d hd => by
      obtain ⟨f, r, _, rfl⟩ := hm d hd
      exact plain_tup fun d hd => by
        rcases List.mem_cons.mp hd with rfl | hd
        · exact plain_int _
        · rw [List.mem_singleton] at hd
          subst hd
          exact plain_int _
    cases A with
    | nil =>
      refine rss_if (et_eqL hu (vl 2) en_nil.er (by decide +kernel) (by decide +kernel)) (fun H G z => ?_) (fun H G z => ?_)
      · exact rss_retD ed_non
      · exact absurd z (by decide +kernel)
    | cons d ds =>
      refine rss_if (et_eqL hu (vl 2) en_nil.er ((plain_list pl).shaped (by decide)) (by decide +kernel)) (fun H G z => ?_) (fun H G z => ?_)
      · exact absurd z (by unfold PyData.eqv PyData.eqvAll; decide)
      · refine rss_nil ?_
        obtain ⟨f, r, hr, em⟩ := hm _ (minD_mem d ds)
        refine rss_unp (d1 := .int f) (d2 := .int (r : Nat)) 7 3 (ED.to (ed_minD rfl (by rfl) T.min (vl 2) ⟨fun p hp q hq => ?_, fun p hp => ?_⟩ ?_) em) fun σ H G => ?_
        · obtain ⟨_, _, _, rfl⟩ := hm p hp
          obtain ⟨_, _, _, rfl⟩ := hm q hq
          rfl
        · obtain ⟨_, _, _, rfl⟩ := hm p hp
          exact fun z => by cases z
        · have := depth_all fun d hd => (pl d hd).dep
          omega
        · refine rss_retD (ED.to (ed_addT (ed_addT (ed_repT (k := (r : Nat)) (ed_tup (ds := [.int 0]) (ea_d ed_int ea_0)) (vd 3) (by omega) (by omega)) (ed_tup (ds := [.int f]) (ea_d (vd 7) ea_0)) ?_) (ed_repT (ed_tup (ds := [.int 0]) (ea_d ed_int ea_0)) (ed_sub (ed_sub (lenC (by rfl) T.len (vd 0)) (vd 3)) ed_int) (by omega) (by omega)) ?_) ?_)
          · rw [List.length_replicate]; exact small _ (by simp; omega)
          · rw [List.length_append, List.length_replicate, List.length_replicate]; exact small _ (by simp; omega)
          · exact (partRes_at em).symm
theorem scAlike : FnScope ["halls", "one", "other"] ["halls", "one", "other"] (defScope sAlike) := ⟨rfl, rfl, rfl, by decide +kernel, rfl, by decide +kernel, by decide +kernel⟩
def φAlike (ss : List Sl) (r : Sl) : Prop := ∃ (h : Nat) (w v : List Nat), ss = [.dat (.int h), .dat (.str (txt w)), .dat (.str (txt v))] ∧ 1 ≤ h ∧ h ≤ 6 ∧ Word h w ∧ w.length ≤ 8 ∧ Word h v ∧ v.length ≤ 8 ∧ r = .dat (partingM (cardM h w) (cardM h v))
abbrev KAlike (m : Md) := Kn m "alike" ["halls", "one", "other"] 3 φAlike
theorem kn_alike {m : Md} (T : Tx m) (K1 : KNeedHalls m) (K2 : KNeedWork m) (K3 : KCardOf m) (K4 : KParts m) (F : Df m "alike" sAlike ["halls", "one", "other"]) : KAlike m := by
  refine knS F scAlike (fun ss r ⟨_, _, _, e, _⟩ => by rw [e]; rfl) fun f rt ss r H σ hφ hr nd G => ?_
  obtain ⟨h, w, v, rfl, h1, h6, W, hw, V, hv, rfl⟩ := hφ
  refine rss_expr (ed_call K1 (as_d (vd 0) as_0) ⟨h, rfl, h1, h6, rfl⟩) fun H G => ?_
  refine rss_expr (ed_call K2 (as_d (vd 0) (as_d (vd 1) as_0)) ⟨h, w, rfl, h1, h6, W, by omega, rfl⟩) fun H G => ?_
  refine rss_expr (ed_call K2 (as_d (vd 0) (as_d (vd 2) as_0)) ⟨h, v, rfl, h1, h6, V, by omega, rfl⟩) fun H G => ?_
  exact rss_retD (ed_call K4 (as_d (ed_call K3 (as_d (vd 0) (as_d (vd 1) as_0)) ⟨h, w, rfl, h1, h6, W, hw, rfl⟩) (as_d (ed_call K3 (as_d (vd 0) (as_d (vd 2) as_0)) ⟨h, v, rfl, h1, h6, V, hv, rfl⟩) as_0)) ⟨h, _, _, rfl, h6, shape_cardM h w, shape_cardM h v, rfl⟩)
theorem scParting : FnScope ["one", "other"] ["one", "other"] (defScope sParting) := ⟨rfl, rfl, rfl, by decide +kernel, rfl, by decide +kernel, by decide +kernel⟩
abbrev KParting (m : Md) := Kn m "parting" ["one", "other"] 2 (φTwo partingM)
theorem kn_parting {m : Md} (T : Tx m) (K1 : KNeedCard m) (K2 : KParts m) (F : Df m "parting" sParting ["one", "other"]) : KParting m := by
  refine knS F scParting (fun ss r ⟨_, _, _, e, _⟩ => by rw [e]; rfl) fun f rt ss r H σ hφ hr nd G => ?_
  obtain ⟨h, a, b, rfl, h1, h6, S, S2, CB, CB2, rfl⟩ := hφ
  have hu := hr.units
  refine rss_expr (ed_call K1 (as_d (vd 0) as_0) ⟨h, a, rfl, h1, h6, S, CB, rfl⟩) fun H G => ?_
  refine rss_expr (ed_call K1 (as_d (vd 1) as_0) ⟨h, b, rfl, h1, h6, S2, CB2, rfl⟩) fun H G => ?_
  refine rss_ifF (et_neI hu (lenC (by rfl) T.len (vd 0)) (lenC (by rfl) T.len (vd 1))) ?_ fun H G => ?_
  · rw [S.len, S2.len, decide_eq_true rfl]; rfl
  exact rss_retD (ed_call K2 (as_d (vd 0) (as_d (vd 1) as_0)) ⟨h, a, b, rfl, h6, S, S2, rfl⟩)
end Dw
/-! Dw: after enough passes of the work nobody goes on (plain) -/
namespace Dw
open PySem PySem.Spec PyProof.Rows L2
/-- a door in the span that no sign of the work opens -/
def Shut (z : Nat → Prop) (i p : Nat) : Prop := ∃ m, i ≤ m ∧ m ≤ i + p ∧ z m
structure Lay (h : Nat) (z : Nat → Prop) (n : Int) (c : Card) : Prop where
  pos : ∀ i p, i + p < h → 0 ≤ gi c i p
  shut : ∀ i p, i + p < h → Shut z i p → gi c i p = 0
  up : ∀ i p, i + p < h → ¬ Shut z i p → n - p ≤ gi c i p
theorem gi_both {a b : Card} {i p : Nat} (h1 : i < a.length) (h2 : p < a.length - i) : gi (bothM a b) i p = bothC a b i p := by
  unfold gi
  rw [bothM_eq, getD_rangeMap h1]
  unfold bothR
  rw [getD_rangeMap h2]
theorem bothC_le {a b : Card} {i p s : Nat} (h : s ≤ p) : bothC a b i p ≤ gi a i s + gi b (i + s) (p - s) := lmin_le (List.mem_map.mpr ⟨s, List.mem_range.mpr (by omega), rfl⟩)
theorem bothC_eq {a b : Card} {i p : Nat} : ∃ s, s ≤ p ∧ bothC a b i p = gi a i s + gi b (i + s) (p - s) := by
  have h := lmin_mem (xs := (List.range (p + 1)).map fun seam => gi a i seam + gi b (i + seam) (p - seam)) (by rw [List.length_map, List.length_range]; omega)
  obtain ⟨s, hs, e⟩ := List.mem_map.mp h
  exact ⟨s, by have := List.mem_range.mp hs; omega, e.symm⟩
theorem lay_both {h : Nat} {z : Nat → Prop} {n m : Int} {a b : Card} (S : a.length = h) (A : Lay h z n a) (B : Lay h z m b) : Lay h z (n + m) (bothM a b) := by
  refine ⟨fun i p hp => ?_, fun i p hp ⟨k, k1, k2, kz⟩ => ?_, fun i p hp ns => ?_⟩
  · rw [gi_both (by omega) (by omega)]
    obtain ⟨s, hs, e⟩ := bothC_eq (a := a) (b := b) (i := i) (p := p)
    have := A.pos i s (by omega)
    have := B.pos (i + s) (p - s) (by omega)
    omega
  · rw [gi_both (by omega) (by omega)]
    obtain ⟨s, hs, e⟩ := bothC_eq (a := a) (b := b) (i := i) (p := p)
    have := A.pos i s (by omega)
    have := B.pos (i + s) (p - s) (by omega)
    have q := bothC_le (a := a) (b := b) (i := i) (p := p) (s := k - i) (by omega)
    have q1 := A.shut i (k - i) (by omega) ⟨k, by omega, by omega, kz⟩
    have q2 := B.shut (i + (k - i)) (p - (k - i)) (by omega) ⟨k, by omega, by omega, kz⟩
    omega
  · rw [gi_both (by omega) (by omega)]
    obtain ⟨s, hs, e⟩ := bothC_eq (a := a) (b := b) (i := i) (p := p)
    have q1 := A.up i s (by omega) fun ⟨k, k1, k2, kz⟩ => ns ⟨k, by omega, by omega, kz⟩
    have q2 := B.up (i + s) (p - s) (by omega) fun ⟨k, k1, k2, kz⟩ => ns ⟨k, by omega, by omega, kz⟩
    omega
theorem gi_nothing {h i p : Nat} : gi (nothingM h) i p = 0 := by
  unfold gi nothingM
  by_cases hi : i < h
  · rw [getD_rangeMap hi]
    by_cases hp : p < h - i
    · rw [List.getD_eq_getElem?_getD, List.getElem?_replicate, if_pos hp]; rfl
    · rw [List.getD_eq_getElem?_getD, List.getElem?_replicate, if_neg hp]; rfl
  · have e : ((List.range h).map fun i => List.replicate (h - i) (0 : Int)).getD i [] = [] := by
      rw [List.getD_eq_getElem?_getD, List.getElem?_eq_none (by simp; omega)]
      rfl
    rw [e]
    rfl
theorem lay_nothing {h k : Nat} {z : Nat → Prop} : Lay h z 0 (nothingM k) := ⟨fun i p _ => by rw [gi_nothing]; omega, fun i p _ _ => gi_nothing, fun i p _ _ => by rw [gi_nothing]; omega⟩
theorem lay_pow {h : Nat} {z : Nat → Prop} (t : Nat) : ∀ {n m : Int} {f o : Card}, f.length = h → o.length = h → Lay h z n f → Lay h z m o → Lay h z (n + m * t) (powM f o t) := by
  induction t using Nat.strongRecOn with
  | ind t ih =>
    intro n m f o lf lo F O
    have lb : ∀ {a b : Card}, a.length = h → (bothM a b).length = h := fun {a b} e => by simp [bothM, e]
    unfold powM
    by_cases e : t = 0
    · rw [dif_pos e, e]
      simpa using F
    · rw [dif_neg e]
      by_cases e2 : t % 2 = 1
      · rw [if_pos e2]
        have q := ih (t / 2) (by omega) (lb lf) (lb lo) (lay_both lf F O) (lay_both lo O O)
        have e3 : n + m * t = n + m + (m + m) * (t / 2 : Nat) := by
          have : (t : Int) = 2 * (t / 2 : Nat) + 1 := by omega
          rw [this, Int.mul_add, Int.add_mul, ← Int.mul_assoc, Int.mul_comm m 2]
          generalize ((t / 2 : Nat) : Int) = u
          have : 2 * m * u = m * u + m * u := by rw [Int.mul_assoc, Int.two_mul]
          omega
        rw [e3]
        exact q
      · rw [if_neg e2]
        have q := ih (t / 2) (by omega) lf (lb lo) F (lay_both lo O O)
        have e3 : n + m * t = n + (m + m) * (t / 2 : Nat) := by
          have : (t : Int) = 2 * (t / 2 : Nat) := by omega
          rw [this, Int.add_mul, ← Int.mul_assoc, Int.mul_comm m 2]
          generalize ((t / 2 : Nat) : Int) = u
          have : 2 * m * u = m * u + m * u := by rw [Int.mul_assoc, Int.two_mul]
          omega
        rw [e3]
        exact q
/-- the doors that no sign opens -/
def zOf (c : Card) (m : Nat) : Prop := gi c m 0 = 0
structure Word1 (h : Nat) (c : Card) : Prop where
  sh : Shape h c
  pos : ∀ i p, i + p < h → 0 ≤ gi c i p
  shut : ∀ i p, i + p < h → Shut (zOf c) i p → gi c i p = 0
theorem gi_opened {h d i p : Nat} {c : Card} (S : Shape h c) (hp : i + p < h) : gi (openedM c d) i p = if i + p = d then (if p = 0 then gi c i 0 + 1 else min (gi c i p + 1) (gi c i (p - 1))) else gi c i p := by
  have lc := S.len
  have lr := S.row i (by omega)
  unfold gi openedM
  rw [getD_rangeMap (by omega)]
  by_cases hd : i ≤ d
  · rw [if_pos hd]
    unfold openRow
    by_cases hk : i + p = d
    · rw [if_pos hk]
      have e : d - i = p := by omega
      rw [e, List.getD_eq_getElem?_getD, List.getElem?_set_self (by omega)]
      rfl
    · rw [if_neg hk, List.getD_eq_getElem?_getD, List.getElem?_set_ne (by omega), ← List.getD_eq_getElem?_getD]
  · rw [if_neg hd, if_neg (by omega)]
theorem word1_opened {h d : Nat} {c : Card} (W : Word1 h c) (hd : d < h) : Word1 h (openedM c d) := by
  have S := W.sh
  refine ⟨shape_opened S d, fun i p hp => ?_, fun i p hp ⟨m, m1, m2, mz⟩ => ?_⟩
  · rw [gi_opened S hp]
    have q := W.pos i p hp
    split
    · split
      · have := W.pos i 0 (by omega); omega
      · have := W.pos i (p - 1) (by omega); omega
    · exact q
  · have dz : m ≠ d ∧ gi c m 0 = 0 := by
      unfold zOf at mz
      rw [gi_opened S (by omega)] at mz
      have := W.pos m 0 (by omega)
      split at mz
      · rw [if_pos rfl] at mz; omega
      · exact ⟨by omega, mz⟩
    have q := W.shut i p hp ⟨m, m1, m2, dz.2⟩
    rw [gi_opened S hp]
    split
    · split
      · omega
      · have := W.shut i (p - 1) (by omega) ⟨m, m1, by omega, dz.2⟩
        omega
    · exact q
theorem word1_card {h : Nat} : ∀ (w : List Nat) {c : Card}, (∀ d ∈ w, d < h) → Word1 h c → Word1 h (w.foldl openedM c)
  | [], _, _, W => W
  | d :: w, c, hw, W => word1_card w (fun x hx => hw x (List.mem_cons_of_mem _ hx)) (word1_opened W (hw d List.mem_cons_self))
theorem word1_cardM {h : Nat} {w : List Nat} (W : Word h w) : Word1 h (cardM h w) := word1_card w W ⟨shape_nothing h, fun i p _ => by rw [gi_nothing]; omega, fun i p _ _ => gi_nothing⟩
theorem Word1.lay {h : Nat} {c : Card} (W : Word1 h c) : Lay h (zOf c) 1 c := ⟨W.pos, W.shut, fun i p hp ns => by
  have q := W.pos i p hp
  cases p with
  | zero =>
    have : gi c i 0 ≠ 0 := fun z => ns ⟨i, by omega, by omega, z⟩
    omega
  | succ p => omega⟩
/-! ### sums -/
def PS (cr : List Int) : Nat → Int
  | 0 => 0
  | k + 1 => PS cr k + cr.getD k 0
theorem sumI_ps (cr : List Int) (last : Nat) : ∀ k, k ≤ last + 1 → sumI cr last k = PS cr (last + 1) - PS cr (last + 1 - k)
  | 0, _ => by simp [sumI]
  | k + 1, h => by
    unfold sumI
    rw [sumI_ps cr last k (by omega)]
    have e : last + 1 - k = (last - k) + 1 := by omega
    have e2 : last + 1 - (k + 1) = last - k := by omega
    rw [e, e2]
    show _ = _
    rw [PS]
    rw [PS]
    omega
theorem bestI_le (c : Card) (cr : List Int) (last : Nat) : ∀ k j, j ≤ k → bestI c cr last k ≤ sumI cr last j + gi c (last - j) j
  | 0, j, h => by
    have : j = 0 := by omega
    subst this
    unfold bestI
    simp [sumI]
  | k + 1, j, h => by
    unfold bestI
    by_cases e : j = k + 1
    · subst e
      exact Int.min_le_right _ _
    · exact Int.le_trans (Int.min_le_left _ _) (bestI_le c cr last k j (by omega))
theorem bestI_eq (c : Card) (cr : List Int) (last : Nat) : ∀ k, ∃ j, j ≤ k ∧ bestI c cr last k = sumI cr last j + gi c (last - j) j
  | 0 => ⟨0, Nat.le_refl _, by unfold bestI; simp [sumI]⟩
  | k + 1 => by
    unfold bestI
    obtain ⟨j, hj, e⟩ := bestI_eq c cr last k
    by_cases h : bestI c cr last k ≤ sumI cr last (k + 1) + gi c (last - (k + 1)) (k + 1)
    · rw [Int.min_eq_left h]
      exact ⟨j, by omega, e⟩
    · rw [Int.min_eq_right (by omega)]
      exact ⟨k + 1, Nat.le_refl _, rfl⟩
def thr (c : Card) (cr : List Int) (last : Nat) : Int := min (bestI c cr last last) (sumI cr last (last + 1))
theorem thr_le {c : Card} {cr : List Int} {last f : Nat} (h : f ≤ last) : thr c cr last ≤ PS cr (last + 1) - PS cr (f + 1) + gi c f (last - f) := by
  refine Int.le_trans (Int.min_le_left _ _) (Int.le_trans (bestI_le c cr last last (last - f) (by omega)) ?_)
  rw [sumI_ps cr last (last - f) (by omega)]
  have e : last + 1 - (last - f) = f + 1 := by omega
  have e2 : last - (last - f) = f := by omega
  rw [e, e2]
  exact Int.le_refl _
theorem thr_le0 {c : Card} {cr : List Int} {last : Nat} : thr c cr last ≤ PS cr (last + 1) := by
  refine Int.le_trans (Int.min_le_right _ _) ?_
  rw [sumI_ps cr last (last + 1) (by omega), Nat.sub_self]
  show _ - (0 : Int) ≤ _
  omega
theorem thr_ge {c : Card} {cr : List Int} {last : Nat} {n : Int} (h0 : n ≤ PS cr (last + 1)) (h : ∀ f, f ≤ last → n ≤ PS cr (last + 1) - PS cr (f + 1) + gi c f (last - f)) : n ≤ thr c cr last := by
  unfold thr
  refine Int.le_min.mpr ⟨?_, ?_⟩
  · obtain ⟨j, hj, e⟩ := bestI_eq c cr last last
    rw [e, sumI_ps cr last j (by omega)]
    have q := h (last - j) (by omega)
    have e1 : last + 1 - j = (last - j) + 1 := by omega
    have e2 : last - (last - j) = j := by omega
    rw [e2] at q
    rw [e1]
    exact q
  · rw [sumI_ps cr last (last + 1) (by omega), Nat.sub_self]
    show n ≤ _ - (0 : Int)
    omega
theorem through_at {c : Card} {cr : List Int} {i : Nat} (h : i < cr.length) : (throughM c cr).getD i 0 = thr c cr i := by
  unfold throughM
  rw [getD_rangeMap h]
  rfl
/-! ### where they stay -/
section
open Classical
noncomputable def Kp (z : Nat → Prop) (cr : List Int) : Nat → Int
  | 0 => 0
  | k + 1 => if z k then PS cr (k + 1) else Kp z cr k
end
section
variable {z : Nat → Prop} {cr : List Int} {h : Nat}
theorem kp_s {k : Nat} (hz : z k) : Kp z cr (k + 1) = PS cr (k + 1) := by rw [Kp, if_pos hz]
theorem kp_n {k : Nat} (hz : ¬ z k) : Kp z cr (k + 1) = Kp z cr k := by rw [Kp, if_neg hz]
theorem ps_mono (C : ∀ i, i < h → 0 ≤ cr.getD i 0) : ∀ {a b : Nat}, a ≤ b → b ≤ h → PS cr a ≤ PS cr b := by
  intro a b hab hb
  induction b with
  | zero =>
    have : a = 0 := by omega
    rw [this]
    exact Int.le_refl _
  | succ b ih =>
    by_cases e : a = b + 1
    · rw [e]
      exact Int.le_refl _
    · have := ih (by omega) (by omega)
      have := C b (by omega)
      rw [PS]
      omega
theorem kp_cases : ∀ k : Nat, (Kp z cr k = 0 ∧ ∀ i, i < k → ¬ z i) ∨ (∃ m, m < k ∧ z m ∧ Kp z cr k = PS cr (m + 1) ∧ Kp z cr (m + 1) = PS cr (m + 1) ∧ ∀ i, m < i → i < k → ¬ z i)
  | 0 => .inl ⟨rfl, fun i hi => absurd hi (by omega)⟩
  | k + 1 => by
    by_cases hz : z k
    · exact .inr ⟨k, by omega, hz, kp_s hz, kp_s hz, fun i h1 h2 => absurd h1 (by omega)⟩
    · rw [kp_n hz]
      rcases kp_cases k with ⟨e, q⟩ | ⟨m, hm, q1, q2, q3, q4⟩
      · refine .inl ⟨e, fun i hi => ?_⟩
        by_cases c : i = k
        · rw [c]; exact hz
        · exact q i (by omega)
      · refine .inr ⟨m, by omega, q1, q2, q3, fun i h1 h2 => ?_⟩
        by_cases c : i = k
        · rw [c]; exact hz
        · exact q4 i h1 (by omega)
theorem kp_le (C : ∀ i, i < h → 0 ≤ cr.getD i 0) : ∀ k, k ≤ h → 0 ≤ Kp z cr k ∧ Kp z cr k ≤ PS cr k := by
  intro k hk
  have q0 := ps_mono C (Nat.zero_le k) hk
  rcases kp_cases (z := z) (cr := cr) k with ⟨e, _⟩ | ⟨m, hm, _, e, _, _⟩
  · rw [e]
    exact ⟨Int.le_refl _, q0⟩
  · rw [e]
    exact ⟨ps_mono C (Nat.zero_le (m + 1)) (by omega), ps_mono C (by omega) hk⟩
theorem kp_mono (C : ∀ i, i < h → 0 ≤ cr.getD i 0) : ∀ {a b : Nat}, a ≤ b → b ≤ h → Kp z cr a ≤ Kp z cr b := by
  intro a b hab hb
  induction b with
  | zero =>
    have : a = 0 := by omega
    rw [this]
    exact Int.le_refl _
  | succ b ih =>
    by_cases e : a = b + 1
    · rw [e]
      exact Int.le_refl _
    · have q := ih (by omega) (by omega)
      by_cases hz : z b
      · rw [kp_s hz]
        have := (kp_le (z := z) C b (by omega)).2
        have := ps_mono C (show b ≤ b + 1 by omega) hb
        omega
      · rw [kp_n hz]
        exact q
/-- T: what goes through of a card that is big where no door is shut -/
theorem thr_stuck {n : Int} {c : Card} (L : Lay h z n c) (C : ∀ i, i < h → 0 ≤ cr.getD i 0) (hn : PS cr h + h ≤ n) {last : Nat} (hl : last < h) : thr c cr last = PS cr (last + 1) - Kp z cr (last + 1) := by
  have kl := kp_le (z := z) C (last + 1) hl
  refine Int.le_antisymm ?_ (thr_ge (by omega) fun f hf => ?_)
  · rcases kp_cases (z := z) (cr := cr) (last + 1) with ⟨e, _⟩ | ⟨m, hm, mz, e, _, _⟩
    · rw [e]
      have := thr_le0 (c := c) (cr := cr) (last := last)
      omega
    · rw [e]
      have q := thr_le (c := c) (cr := cr) (last := last) (f := m) (by omega)
      have q2 := L.shut m (last - m) (by omega) ⟨m, by omega, by omega, mz⟩
      omega
  · by_cases sh : Shut z f (last - f)
    · obtain ⟨m, m1, m2, mz⟩ := sh
      have q1 := L.pos f (last - f) (by omega)
      have q2 := kp_mono (z := z) C (show m + 1 ≤ last + 1 by omega) hl
      rw [kp_s mz] at q2
      have q3 := ps_mono C (show f + 1 ≤ m + 1 by omega) (by omega)
      omega
    · have q1 := L.up f (last - f) (by omega) sh
      have q2 := ps_mono C (show last + 1 ≤ h by omega) (Nat.le_refl h)
      have q3 := ps_mono C (show f + 1 ≤ last + 1 by omega) hl
      omega
end
theorem behind_at {cr went : List Int} {i : Nat} (h : i < cr.length) : (behindM cr went).getD i 0 = cr.getD i 0 - went.getD i 0 + (if i = 0 then 0 else went.getD (i - 1) 0) := by
  unfold behindM
  rw [getD_rangeMap h]
theorem ps_behind {z : Nat → Prop} {cr : List Int} {c : Card} (H : ∀ i, i < cr.length → (throughM c cr).getD i 0 = PS cr (i + 1) - Kp z cr (i + 1)) : ∀ k, k ≤ cr.length → PS (behindM cr (throughM c cr)) k = Kp z cr k
  | 0, _ => rfl
  | k + 1, h => by
    rw [PS, ps_behind H k (by omega), behind_at (by omega), H k (by omega)]
    rw [PS]
    by_cases e : k = 0
    · subst e
      rw [if_pos rfl]
      show (0 : Int) + (_ - ((0 : Int) + _ - _) + 0) = _
      omega
    · rw [if_neg e, H (k - 1) (by omega)]
      have e2 : k - 1 + 1 = k := by omega
      rw [e2]
      omega
theorem sum_zero : ∀ (xs : List Int), (∀ x ∈ xs, x = 0) → xs.sum = 0
  | [], _ => rfl
  | x :: xs, h => by
    rw [List.sum_cons, h x List.mem_cons_self, sum_zero xs fun y hy => h y (List.mem_cons_of_mem _ hy)]
    rfl
theorem still_64 {h : Nat} {w : List Nat} {cr : List Int} (W : Word h w) (hl : cr.length = h) (h6 : h ≤ 6) (C : ∀ x ∈ cr, 0 ≤ x ∧ x ≤ 8) : stillM (cardM h w) cr 64 = true := by
  have W1 := word1_cardM W
  have Cp : ∀ i, i < h → 0 ≤ cr.getD i 0 := fun i hi => (C _ (List.mem_of_getElem? (getElem?_D (d := 0) (by omega)))).1
  have Cu : ∀ k, k ≤ h → PS cr k ≤ 8 * k := by
    intro k hk
    induction k with
    | zero => exact Int.le_refl _
    | succ k ih =>
      have := ih (by omega)
      have := (C _ (List.mem_of_getElem? (getElem?_D (xs := cr) (k := k) (d := 0) (by omega)))).2
      rw [PS]
      omega
  have L64 : Lay h (zOf (cardM h w)) 64 (powerM (cardM h w) 64) := by
    have q := lay_pow (h := h) (z := zOf (cardM h w)) 64 (n := 0) (m := 1) (f := nothingM (cardM h w).length) (o := cardM h w) (by rw [W1.sh.len]; simp [nothingM]) W1.sh.len lay_nothing W1.lay
    have e : (0 : Int) + 1 * (64 : Nat) = 64 := by decide
    rw [e] at q
    exact q
  have hT : ∀ i, i < cr.length → (throughM (powerM (cardM h w) 64) cr).getD i 0 = PS cr (i + 1) - Kp (zOf (cardM h w)) cr (i + 1) := fun i hi => by
    rw [through_at hi]
    exact thr_stuck L64 Cp (by have := Cu h (Nat.le_refl _); omega) (by omega)
  have hP := ps_behind hT
  unfold stillM
  refine decide_eq_true (sum_zero _ fun x hx => ?_)
  have lb := behind_len cr (throughM (powerM (cardM h w) 64) cr)
  generalize behindM cr (throughM (powerM (cardM h w) 64) cr) = here at hx hP lb
  obtain ⟨last, hlast, rfl⟩ := List.mem_map.mp hx
  have hll := List.mem_range.mp hlast
  show thr (cardM h w) here last = 0
  refine Int.le_antisymm ?_ (thr_ge ?_ fun f hf => ?_)
  · rcases kp_cases (z := zOf (cardM h w)) (cr := cr) (last + 1) with ⟨e, _⟩ | ⟨m, hm, mz, e, e2, _⟩
    · have q := thr_le0 (c := cardM h w) (cr := here) (last := last)
      rw [hP (last + 1) (by omega), e] at q
      exact q
    · have q := thr_le (c := cardM h w) (cr := here) (last := last) (f := m) (by omega)
      rw [hP (last + 1) (by omega), hP (m + 1) (by omega), e, e2] at q
      have q2 := W1.shut m (last - m) (by omega) ⟨m, by omega, by omega, mz⟩
      omega
  · rw [hP (last + 1) (by omega)]
    exact (kp_le Cp (last + 1) (by omega)).1
  · rw [hP (last + 1) (by omega), hP (f + 1) (by omega)]
    have q1 := W1.pos f (last - f) (by omega)
    have q2 := kp_mono (z := zOf (cardM h w)) Cp (show f + 1 ≤ last + 1 by omega) (by omega)
    omega
end Dw
namespace Dw
open PySem PySem.Spec PyProof.Rows L2
abbrev sRest : Stmt := topS 49
abbrev sStill : Stmt := topS 50
/-! ### is_still, at_rest -/
theorem scStill : FnScope ["one", "crowd", "times", "here"] ["one", "crowd", "times"] (defScope sStill) := ⟨rfl, rfl, rfl, by decide +kernel, rfl, by decide +kernel, by decide +kernel⟩
def φStill (ss : List Sl) (r : Sl) : Prop := ∃ (h t : Nat) (c : Card) (cr : List Int), ss = [.dat (cardD c), .dat (rowD cr), .dat (.int t)] ∧ h ≤ 6 ∧ Shape h c ∧ cr.length = h ∧ r = .dat (.bool (stillM c cr t))
abbrev KStill (m : Md) := Kn m "is_still" ["one", "crowd", "times"] 3 φStill
theorem kn_still {m : Md} (T : Tx m) (K1 : KPower m) (K2 : KThrough m) (K3 : KBehind m) (F : Df m "is_still" sStill ["one", "crowd", "times"]) : KStill m := by
  refine knS F scStill (fun ss r ⟨_, _, _, _, e, _⟩ => by rw [e]; rfl) fun f rt ss r H σ hφ hr nd G => ?_
  obtain ⟨h, t, c, cr, rfl, h6, S, hl, rfl⟩ := hφ
  have hu := hr.units
  refine rss_set 3 (ed_call K3 (as_d (vd 1) (as_r (EN.er (en_call K2 (as_d (ed_call K1 (as_d (vd 0) (as_d (vd 2) as_0)) ⟨h, t, c, rfl, h6, S, rfl⟩) (as_d (vd 1) as_0)) ⟨h, powerM c t, cr, rfl, h6, shape_power S t, hl, rfl⟩)) as_0)) ⟨cr, throughM (powerM c t) cr, rfl, through_len _ _, by omega, rfl⟩) fun σ H G => ?_
  have lb := behind_len cr (throughM (powerM c t) cr)
  exact rss_retD (ed_eqI hu (ed_sum rfl (by rfl) T.sum (EN.er (en_call K2 (as_d (vd 0) (as_d (vd 3) as_0)) ⟨h, c, _, rfl, h6, S, by rw [lb, hl], rfl⟩))) ed_int)
/-- the first loop, the second -/
def dblM (s : Nat → Bool) : Nat → Nat → Nat
  | 0, hi => hi
  | f + 1, hi => if s hi then hi else dblM s f (hi * 2)
def binM (s : Nat → Bool) (lo hi : Nat) : Nat := if h : hi ≤ lo then lo else if s ((lo + hi) / 2) then binM s lo ((lo + hi) / 2) else binM s ((lo + hi) / 2 + 1) hi
termination_by hi - lo
decreasing_by all_goals omega
def restM (h : Nat) (w : List Nat) (cr : List Int) : PyData :=
  let t := binM (stillM (cardM h w) cr) 0 (dblM (stillM (cardM h w) cr) 6 1)
  .tuple [.int t, rowD (behindM cr (throughM (powerM (cardM h w) t) cr))]
theorem scRest : FnScope ["halls", "work", "crowd", "one", "low", "high", "middle"] ["halls", "work", "crowd"] (defScope sRest) := ⟨rfl, rfl, rfl, by decide +kernel, rfl, by decide +kernel, by decide +kernel⟩
def φRest (ss : List Sl) (r : Sl) : Prop := ∃ (h : Nat) (w : List Nat) (cr : List Int), ss = [.dat (.int h), .dat (.str (txt w)), .dat (rowD cr)] ∧ 1 ≤ h ∧ h ≤ 6 ∧ Word h w ∧ w.length ≤ 8 ∧ cr.length = h ∧ (∀ x ∈ cr, 0 ≤ x ∧ x ≤ 8) ∧ r = .dat (restM h w cr)
abbrev KRest (m : Md) := Kn m "at_rest" ["halls", "work", "crowd"] 4 φRest
theorem kn_rest {m : Md} (T : Tx m) (K1 : KNeedHalls m) (K2 : KNeedWork m) (K3 : KNeedCrowd m) (K4 : KCardOf m) (K5 : KStill m) (K6 : KPower m) (K7 : KThrough m) (K8 : KBehind m) (F : Df m "at_rest" sRest ["halls", "work", "crowd"]) : KRest m := by
  refine knS F scRest (fun ss r ⟨_, _, _, e, _⟩ => by rw [e]; rfl) fun f rt ss r H σ hφ hr nd G => ?_
  obtain ⟨h, w, cr, rfl, h1, h6, W, hw, hl, C, rfl⟩ := hφ
  have hC : Crowd cr := fun x hx => by have := C x hx; omega
  have hu := hr.units
  refine rss_expr (ed_call K1 (as_d (vd 0) as_0) ⟨h, rfl, h1, h6, rfl⟩) fun H G => ?_
  refine rss_expr (ed_call K2 (as_d (vd 0) (as_d (vd 1) as_0)) ⟨h, w, rfl, h1, h6, W, by omega, rfl⟩) fun H G => ?_
  refine rss_expr (ed_call K3 (as_d (vd 0) (as_d (vd 2) as_0)) ⟨h, cr, rfl, hl, h6, hC, rfl⟩) fun H G => ?_
  refine rss_set 3 (ed_call K4 (as_d (vd 0) (as_d (vd 1) as_0)) ⟨h, w, rfl, h1, h6, W, by omega, rfl⟩) fun σ H G => ?_
  refine rss_unp (d1 := .int 0) (d2 := .int 1) 4 5 (ed_tup (ea_d ed_int (ea_d ed_int ea_0))) fun σ H G => ?_
  have S := shape_cardM h w
  have s64 := still_64 W hl h6 C
  unfold restM
  generalize hs : stillM (cardM h w) cr = s at s64
  have still : ∀ t, stillM (cardM h w) cr t = s t := fun t => by rw [hs]
  refine rss_while (fun n Γ => ∃ hi : Nat, n ≤ 6 ∧ hi * 2 ^ n = 64 ∧ Γ = [.dat (.int h), .dat (.str (txt w)), .dat (rowD cr), .dat (cardD (cardM h w)), .dat (.int 0), .dat (.int (hi : Nat)), .un] ∧ dblM s n hi = dblM s 6 1) 6 ⟨1, by omega, rfl, rfl, rfl⟩ fun B' sB n Γ σ H j G => ?_
  obtain ⟨hi, n6, hp, rfl, hd⟩ := j
  refine ⟨_, et_not (et_val (ED.to (ed_call K5 (as_d (vd 3) (as_d (vd 2) (as_d (vd 5) as_0))) ⟨h, hi, _, cr, rfl, h6, S, hl, rfl⟩) (by rw [still]))), fun hk H G => ?_, fun hk H G => ?_⟩
  · have hsf : s hi = false := by simpa using hk
    cases n with
    | zero =>
      have : hi = 64 := by simpa using hp
      rw [this, s64] at hsf
      cases hsf
    | succ n =>
      have hb : hi ≤ 64 := by
        have := Nat.le_mul_of_pos_right hi (Nat.two_pow_pos (n + 1))
        omega
      refine rss_augC 5 iop_mul rfl ed_int ?_ fun σ H G => ?_
      · exact .inr ⟨by decide, by decide⟩
      refine rss_nil ⟨n, _, by omega, ⟨hi * 2, by omega, ?_, rfl, ?_⟩, G.wk⟩
      · rw [Nat.mul_assoc, ← Nat.pow_succ']; exact hp
      · rw [← hd, dblM, hsf]; rfl
  · have hst : s hi = true := by simpa using hk
    have hD : hi = dblM s 6 1 := by
      rw [← hd]
      cases n with
      | zero => rfl
      | succ n => rw [dblM, hst]; rfl
    rw [← hD]
    have hb : hi ≤ 64 := by
      have := Nat.le_mul_of_pos_right hi (Nat.two_pow_pos n)
      omega
    refine rss_while (fun n Γ => ∃ lo hi2 : Nat, n = hi2 - lo ∧ Γ = [.dat (.int h), .dat (.str (txt w)), .dat (rowD cr), .dat (cardD (cardM h w)), .dat (.int (lo : Nat)), .dat (.int (hi2 : Nat)), .un] ∧ binM s lo hi2 = binM s 0 hi) hi ⟨0, hi, rfl, rfl, rfl⟩ fun B2 sB2 n Γ σ H j G => ?_
    obtain ⟨lo, hi2, rfl, rfl, hbin⟩ := j
    refine ⟨_, et_gt (ed_sub (vd 5) (vd 4)) ed_int, fun hk H G => ?_, fun hk H G => ?_⟩
    · have hlt := of_decide_eq_true hk
      have e2 : ((lo : Int) + (hi2 : Int)) / 2 = (((lo + hi2) / 2 : Nat) : Int) := by omega
      refine rss_set 6 (ED.to (ed_fdiv (ed_add (vd 4) (vd 5)) ed_int ⟨by decide, by decide⟩) (by rw [e2])) fun σ H G => ?_
      have eb : binM s lo hi2 = if s ((lo + hi2) / 2) then binM s lo ((lo + hi2) / 2) else binM s ((lo + hi2) / 2 + 1) hi2 := by
        rw [binM, dif_neg (by omega)]
      refine rss_if (et_val (ED.to (ed_call K5 (as_d (vd 3) (as_d (vd 2) (as_d (vd 6) as_0))) ⟨h, (lo + hi2) / 2, _, cr, rfl, h6, S, hl, rfl⟩) (by rw [still]))) (fun H G z => ?_) (fun H G z => ?_)
      · refine rss_set 5 (vd 6) fun σ H G => ?_
        refine rss_nil (rss_nil ⟨(lo + hi2) / 2 - lo, _, by omega, ⟨lo, _, rfl, rfl, ?_⟩, G.wk⟩)
        rw [← hbin, eb, z]; rfl
      · refine rss_set (d := .int (((lo + hi2) / 2 + 1 : Nat) : Int)) 4 (ED.to (ed_add (vd 6) ed_int) (by congr 1)) fun σ H G => ?_
        refine rss_nil (rss_nil ⟨hi2 - ((lo + hi2) / 2 + 1), _, by omega, ⟨_, hi2, rfl, rfl, ?_⟩, G.wk⟩)
        rw [← hbin, eb, z]; rfl
    · have hle := of_decide_eq_false hk
      have hlo : lo = binM s 0 hi := by rw [← hbin, binM, dif_pos (by omega)]
      rw [← hlo]
      have sB3 : Same _ B2 := Same.trans sB sB2
      exact rss_retD (ed_tup (ds := [.int _, rowD _]) (ea_d (vd 4) (ea_d (ed_call K8 (as_d (vd 2) (as_r (EN.er (en_call K7 (as_d (ed_call K6 (as_d (vd 3) (as_d (vd 4) as_0)) ⟨h, lo, _, rfl, h6, S, rfl⟩) (as_d (vd 2) as_0)) ⟨h, _, cr, rfl, h6, shape_power S lo, hl, rfl⟩)) as_0)) ⟨cr, _, rfl, through_len _ _, by omega, rfl⟩) ea_0)))
end Dw
namespace Dw
open PySem PySem.Spec PyProof.Rows L2
abbrev sWritten : Stmt := topS 52
abbrev sShort : Stmt := topS 56
/-! ### written -/
def intT (i : Int) : Str := (toString i : String)
def rowT (r : List Int) : Str := Txt.join " " (r.map intT)
def writtenM (c : Card) : Str := Txt.join "\n" (c.map rowT)
def Low (c : Card) : Prop := ∀ r ∈ c, ∀ x ∈ r, 0 ≤ x ∧ x ≤ 8
theorem Low.cardB {c : Card} (h : Low c) : CardB c := fun r hr x hx => by have := h r hr x hx; omega
theorem intT_low {i : Int} (h : 0 ≤ i ∧ i ≤ 8) : (intT i).length = 1 ∧ PyData.strOk (intT i) = true := by
  have : i = 0 ∨ i = 1 ∨ i = 2 ∨ i = 3 ∨ i = 4 ∨ i = 5 ∨ i = 6 ∨ i = 7 ∨ i = 8 := by omega
  rcases this with rfl | rfl | rfl | rfl | rfl | rfl | rfl | rfl | rfl <;> decide +kernel
theorem log_low {i : Int} (h : 0 ≤ i ∧ i ≤ 8) : i.natAbs.log2 < 1920 := by
  have : i = 0 ∨ i = 1 ∨ i = 2 ∨ i = 3 ∨ i = 4 ∨ i = 5 ∨ i = 6 ∨ i = 7 ∨ i = 8 := by omega
  rcases this with rfl | rfl | rfl | rfl | rfl | rfl | rfl | rfl | rfl <;> decide +kernel
theorem range_at {α β : Type} {f : α → β} {d : α} (xs : List α) : (List.range xs.length).map (fun i => f (xs.getD i d)) = xs.map f := by
  apply List.ext_getElem?
  intro i
  by_cases h : i < xs.length
  · rw [List.getElem?_map, List.getElem?_range h, List.getElem?_map, getElem?_D (d := d) h]
    rfl
  · rw [List.getElem?_eq_none (by simp; omega), List.getElem?_eq_none (by simp; omega)]
theorem strOk_app {x y : Str} (hx : PyData.strOk x = true) (hy : PyData.strOk y = true) : PyData.strOk (x ++ y) = true := by
  unfold PyData.strOk at *
  show (x.cps ++ y.cps).all _ = true
  rw [Array.all_append, hx, hy]
  rfl
theorem strOk_join {sep : Str} (hs : PyData.strOk sep = true) : ∀ ys : List Str, (∀ y ∈ ys, PyData.strOk y = true) → PyData.strOk (Str.join sep ys) = true
  | [], _ => by show PyData.strOk ⟨#[]⟩ = true; decide +kernel
  | [x], h => h x List.mem_cons_self
  | x :: y :: r, h => by
    show PyData.strOk (x ++ sep ++ Str.join sep (y :: r)) = true
    exact strOk_app (strOk_app (h x List.mem_cons_self) hs) (strOk_join hs (y :: r) fun z hz => h z (List.mem_cons_of_mem _ hz))
theorem txtJoin (sep : Str) (ys : List Str) : Txt.join sep ys = Str.join sep ys := StrLaws.glued_eq_join sep ys
theorem strOk_written {c : Card} (h : Low c) : PyData.strOk (writtenM c) = true := by
  unfold writtenM
  rw [txtJoin]
  refine strOk_join (by decide +kernel) _ fun y hy => ?_
  obtain ⟨r, hr, rfl⟩ := List.mem_map.mp hy
  unfold rowT
  rw [txtJoin]
  refine strOk_join (by decide +kernel) _ fun y hy => ?_
  obtain ⟨x, hx, rfl⟩ := List.mem_map.mp hy
  exact (intT_low (h r hr x hx)).2
theorem sum_le {α : Type} {g : α → Nat} {n : Nat} : ∀ (xs : List α), (∀ x ∈ xs, g x ≤ n) → (xs.map g).sum ≤ xs.length * n
  | [], _ => by simp
  | x :: xs, h => by
    have := sum_le xs fun y hy => h y (List.mem_cons_of_mem _ hy)
    have := h x List.mem_cons_self
    simp only [List.map_cons, List.sum_cons, List.length_cons, Nat.succ_mul]
    omega
theorem rowT_len {r : List Int} (h : ∀ x ∈ r, 0 ≤ x ∧ x ≤ 8) : (rowT r).length ≤ r.length * 2 := by
  unfold rowT
  rw [txtJoin]
  have q := StrLaws.join_length_le " " (r.map intT)
  rw [List.map_map, List.length_map] at q
  have q2 := sum_le (g := fun x => (intT x).length) (n := 1) r fun x hx => Nat.le_of_eq (intT_low (h x hx)).1
  have e : (" " : Str).length = 1 := by decide +kernel
  rw [e] at q
  have q3 : (List.map ((fun x => x.length) ∘ intT) r).sum = (r.map fun x => (intT x).length).sum := rfl
  omega
theorem scWritten : FnScope ["one", "numbers", "number"] ["one"] (defScope sWritten) := ⟨rfl, rfl, rfl, by decide +kernel, rfl, by decide +kernel, by decide +kernel⟩
def φWritten (ss : List Sl) (r : Sl) : Prop := ∃ (h : Nat) (c : Card), ss = [.dat (cardD c)] ∧ 1 ≤ h ∧ h ≤ 6 ∧ Shape h c ∧ Low c ∧ r = .dat (.str (writtenM c))
abbrev KWritten (m : Md) := Kn m "written" ["one"] 2 φWritten
theorem kn_written {m : Md} (T : Tx m) (K1 : KNeedCard m) (F : Df m "written" sWritten ["one"]) : KWritten m := by
  refine knS F scWritten (fun ss r ⟨_, _, e, _⟩ => by rw [e]; rfl) fun f rt ss r H σ hφ hr nd G => ?_
  obtain ⟨h, c, rfl, h1, h6, S, L, rfl⟩ := hφ
  have hl := S.len
  refine rss_expr (ed_call K1 (as_d (vd 0) as_0) ⟨h, c, rfl, h1, h6, S, L.cardB, rfl⟩) fun H G => ?_
  have hin : ∀ i, i < c.length → c.getD i [] ∈ c := fun i hi => List.mem_of_getElem? (getElem?_D (d := []) hi)
  refine rss_retD (ed_join (z := "\n") (ys := c.map rowT) ed_str (ER.to (EN.er (ENc.en (lc_T (own := [("numbers", 1)]) (ds := c.map rowD) (out := fun i => .str (rowT (c.getD i []))) 1 (vd 0) (small _ (by rw [List.length_map]; omega)) (blkOk_by (N := ["one", "numbers", "number"]) (sc := defScope sWritten) (by decide +kernel)) ?_))) ?_) ?_)
  · intro s0 H0 C cl fp i σ' H' hi G
    rw [List.length_map] at hi
    rw [map_getDR hi] at G
    have hR := S.row i (by omega)
    have hLR := L _ (hin i hi)
    generalize c.getD i [] = R at G hR hLR
    refine ed_join (z := " ") (ys := R.map intT) ed_str (ER.to (EN.er (ENc.en (lc_T (own := [("number", 2)]) (ds := R.map PyData.int) (out := fun i => .str (intT (R.getD i 0))) 2 (vd 1) (small _ (by rw [List.length_map]; omega)) (blkOk_by (N := ["one", "numbers", "number"]) (sc := { kind := .function, names := [(".0", .local), ("numbers", .local)], isGenerator := false, isCoroutine := false, more := [] }) (by decide +kernel)) ?_))) ?_) ?_
    · intro s0 H0 C cl fp j σ' H' hj G
      rw [List.length_map] at hj
      rw [map_getD hj] at G
      refine ed_strI (by rfl) T.str (vd 2) ?_
      have := hLR _ (List.mem_of_getElem? (getElem?_D (d := 0) hj))
      exact log_low this
    · rw [List.length_map, range_at (f := fun x => PyData.str (intT x)), List.map_map]
      rfl
    · have q := sum_le (g := fun x => (intT x).length) (n := 1) R fun x hx => Nat.le_of_eq (intT_low (hLR x hx)).1
      rw [List.map_map, List.length_map]
      have q3 : (List.map ((fun x => x.length) ∘ intT) R).sum = (R.map fun x => (intT x).length).sum := rfl
      have e : (" " : Str).length = 1 := by decide +kernel
      rw [e]
      omega
  · rw [List.length_map, range_at (f := fun x => PyData.str (rowT x)), List.map_map]
    rfl
  · have q := sum_le (g := fun x => (rowT x).length) (n := 12) c fun x hx => by
      have q1 := rowT_len (L x hx)
      obtain ⟨i, hi, rfl⟩ := List.mem_iff_getElem.mp hx
      have q2 := S.row i (by omega)
      rw [List.getD_eq_getElem?_getD, List.getElem?_eq_getElem hi] at q2
      have q2 : (c[i]).length = h - i := q2
      omega
    rw [List.map_map, List.length_map]
    have q3 : (List.map ((fun x => x.length) ∘ rowT) c).sum = (c.map fun x => (rowT x).length).sum := rfl
    have e : ("\n" : Str).length = 1 := by decide +kernel
    rw [e]
    omega
/-! ### need_short -/
theorem scShort : FnScope ["halls", "work"] ["halls", "work"] (defScope sShort) := ⟨rfl, rfl, rfl, by decide +kernel, rfl, by decide +kernel, by decide +kernel⟩
abbrev KShort (m : Md) := Kn m "need_short" ["halls", "work"] 3 (φHW fun _ _ => .none)
theorem kn_short {m : Md} (T : Tx m) (K1 : KNeedHalls m) (K2 : KNeedWork m) (F : Df m "need_short" sShort ["halls", "work"]) : KShort m := by
  refine knS F scShort (fun ss r ⟨_, _, e, _⟩ => by rw [e]; rfl) fun f rt ss r H σ hφ hr nd G => ?_
  obtain ⟨h, w, rfl, h1, h6, W, hw, rfl⟩ := hφ
  obtain ⟨t1, mS⟩ := T.short
  refine rss_expr (ed_call K1 (as_d (vd 0) as_0) ⟨h, rfl, h1, h6, rfl⟩) fun H G => ?_
  refine rss_expr (ed_call K2 (as_d (vd 0) (as_d (vd 1) as_0)) ⟨h, w, rfl, h1, h6, W, by omega, rfl⟩) fun H G => ?_
  refine rss_ifF (et_gt (lenT (by rfl) T.len (vd 1) (small _ (by omega))) (ed_gI (by rfl) mS)) (decide_eq_false (by omega)) fun H G => ?_
  exact rss_end
end Dw
/-! Dw: a dict whose keys are nested tuples -/
namespace Dw
open PySem PySem.Spec PyProof.Rows L2
mutual
def nk : PyData → NestedKey
  | .none => .none
  | .bool b => .num (if b = true then 1 else 0)
  | .int i => .num i
  | .str x => .text x
  | .tuple ds => .tup (nks ds)
  | .list _ => .none
  | .dict _ => .none
def nks : List PyData → List NestedKey
  | [] => []
  | d :: ds => nk d :: nks ds
end
theorem nks_map {α : Type} (f : α → PyData) : ∀ xs : List α, nks (xs.map f) = xs.map fun x => nk (f x)
  | [] => by simp [nks]
  | x :: xs => by simp [nks, nks_map f xs]
theorem nk_row (r : List Int) : nk (rowD r) = .tup (r.map NestedKey.num) := by
  unfold rowD
  rw [nk, nks_map]
  congr 1
theorem nk_card (c : Card) : nk (cardD c) = .tup (c.map fun r => .tup (r.map NestedKey.num)) := by
  unfold cardD
  rw [nk, nks_map]
  congr 1
  refine List.map_congr_left fun x _ => ?_
  rw [nk_row]
theorem map_inj {α β : Type} {f : α → β} (h : ∀ a b, f a = f b → a = b) : ∀ {xs ys : List α}, xs.map f = ys.map f → xs = ys
  | [], [], _ => rfl
  | [], _ :: _, e => by simp at e
  | _ :: _, [], e => by simp at e
  | x :: xs, y :: ys, e => by
    simp only [List.map_cons, List.cons.injEq] at e
    rw [h _ _ e.1, map_inj h e.2]
theorem nk_card_inj {a b : Card} (e : nk (cardD a) = nk (cardD b)) : a = b := by
  rw [nk_card, nk_card] at e
  injection e with e
  exact map_inj (fun x y z => by
    injection z with z
    exact map_inj (fun i j w => by injection w) z) e
/-- the key (one, so_far) -/
def keyD (c : Card) (t : Nat) : PyData := .tuple [cardD c, .int (t : Nat)]
theorem keyD_inj {a b : Card} {t u : Nat} (e : nk (keyD a t) = nk (keyD b u)) : a = b ∧ t = u := by
  unfold keyD at e
  simp only [nk, nks] at e
  injection e with e
  injection e with e1 e2
  injection e2 with e2 _
  injection e2 with e2
  exact ⟨nk_card_inj e1, by omega⟩
theorem depth_map {α : Type} {f : α → NestedKey} {n : Nat} (h : ∀ x, (f x).depth ≤ n) : ∀ xs : List α, NestedKey.depthAll (xs.map f) ≤ n
  | [] => by simp [NestedKey.depthAll]
  | x :: xs => by
    simp only [List.map_cons, NestedKey.depthAll]
    exact Nat.max_le.mpr ⟨h x, depth_map h xs⟩
theorem keyD_depth (c : Card) (t : Nat) : (nk (keyD c t)).depth ≤ 8 := by
  unfold keyD
  simp only [nk, nks]
  rw [nk_card]
  simp only [NestedKey.depth, NestedKey.depthAll]
  have := depth_map (f := fun r : List Int => NestedKey.tup (r.map NestedKey.num)) (n := 1) (fun r => by
    simp only [NestedKey.depth]
    have := depth_map (f := NestedKey.num) (n := 0) (fun x => by simp [NestedKey.depth]) r
    omega) c
  omega
section
variable {X : Cx} {pins : List (Addr × Obj)} {σ : L2.St} {H : Hp} {s : Shared}
mutual
theorem im_nested (I : Inv X pins σ H s) : ∀ (d : PyData) (v : V) (u : Value), Im H d v → RelV v u → NestedIs s.heap (nk d) u
  | .none, v, u, h, r => by
    rw [h.ofNone] at r
    cases (show u = Value.none from r)
    rw [nk]
    exact .none
  | .bool b, v, u, h, r => by
    rw [h.ofBool] at r
    cases (show u = Value.bool b from r)
    rw [nk]
    exact .bool rfl
  | .int i, v, u, h, r => by
    rw [h.ofInt] at r
    obtain ⟨t, rfl⟩ := (show ∃ t, u = Value.int i t from r)
    rw [nk]
    exact .int i t
  | .str x, v, u, h, r => by
    rw [h.ofStr] at r
    obtain ⟨t, rfl⟩ := (show ∃ t, u = Value.str x t from r)
    rw [nk]
    exact .text x t
  | .tuple ds, v, u, h, r => by
    obtain ⟨a, xs, rfl, h1, h2⟩ := h.ofTup
    cases r
    obtain ⟨its, rv, ⟨o, ho, hc, n, hd⟩, _⟩ := I.tuple (SqT.of (K := X.K) h1)
    rw [nk]
    exact .tup ho hc hd (by rw [List.toList_toArray]; exact ims_nested I ds xs its h2 rv)
  | .list _, _, _, h, _ => by simp [Im] at h
  | .dict _, _, _, h, _ => by simp [Im] at h
theorem ims_nested (I : Inv X pins σ H s) : ∀ (ds : List PyData) (vs : List V) (us : List Value), ImAll H ds vs → Vals vs us → NestedAll s.heap (nks ds) us
  | [], vs, us, h, r => by
    simp only [ImAll] at h
    subst h
    cases r
    rw [nks]
    exact .nil
  | d :: ds, vs, us, h, r => by
    obtain ⟨x, xs, rfl, h1, h2⟩ := h.uncons
    cases r with
    | cons r1 r2 =>
      rw [nks]
      exact .cons (im_nested I d _ _ h1 r1) (ims_nested I ds _ _ h2 r2)
end
/-! ### the dict as it is tracked -/
abbrev Ent := List (NestedKey × Addr × Value)
def NkOk (P : Program) (w : World) (kd : Addr) (xs : Ent) (h : Heap) : Prop := (kd == sysModules) = false ∧ xs.length ≤ sizeLine ∧ ∃ o es ep, h.get? kd = some o ∧ o.ExactDict ∧ o.data = .dict es ep ∧ es.toList = xs.map (entryOfKey (nestedKind P w)) ∧ (xs.map (·.1)).Nodup
def nkO (P : Program) (w : World) (kd : Addr) (xs : Ent) : HO := .ext (NkOk P w kd xs)
def KeysIn (H : Hp) (xs : Ent) : Prop := ∀ x ∈ xs, ∃ d, x.1 = nk d ∧ Im H d (.ref x.2.1) ∧ (nk d).depth ≤ 8
theorem KeysIn.mono {H H' : Hp} {xs : Ent} (k : KeysIn H xs) (t : Tk H H') : KeysIn H' xs := fun x hx => by
  obtain ⟨d, e, i, q⟩ := k x hx
  exact ⟨d, e, i.mono t, q⟩
theorem nk_at {kd : Addr} {xs : Ent} (I : Inv X pins σ H s) (e : H kd = some (nkO X.prog X.w kd xs)) (k : KeysIn H xs) : (kd == sysModules) = false ∧ xs.length ≤ sizeLine ∧ s.heap.DictOfH (nestedKind X.prog X.w) kd xs := by
  obtain ⟨⟨h1, h2, o, es, ep, h3, h4, h5, h6, h7⟩, _, _⟩ := (show ObjOk X.prog X.w H s.heap kd (.ext (NkOk X.prog X.w kd xs)) from I.hok kd _ e)
  refine ⟨h1, h2, o, es, ep, h3, h4, h5, h6, fun x hx => ?_, h7⟩
  obtain ⟨d, e1, i, q⟩ := k x hx
  refine ⟨?_, by rw [e1]; exact q⟩
  rw [e1]
  exact im_nested I d _ _ i rfl
theorem nkO_new {P : Program} {w : World} {kd : Addr} {xs : Ent} {h' : Heap} {H' : Hp} (h1 : (kd == sysModules) = false) (h2 : xs.length ≤ sizeLine) (h3 : h'.DictOfH (nestedKind P w) kd xs) : ObjOk P w H' h' kd (nkO P w kd xs) := by
  obtain ⟨o, es, ep, q1, q2, q3, q4, _, q5⟩ := h3
  exact ⟨⟨h1, h2, o, es, ep, q1, q2, q3, q4, q5⟩, ⟨o, q1⟩, fun a b ⟨z1, z2, o', es', ep', z3, z4⟩ k => ⟨z1, z2, o', es', ep', k _ z3, z4⟩⟩
/-- {} -/
theorem pe_nkNew {pos : Pos} : PE X (.Dict [] [] pos) (fun _ H Q => ∀ p, H p = none → Q (.ref p) (upd H p (nkO X.prog X.w p []))) := ⟨fun pins s σ H Q I h =>
  wpAny_Dict_empty ⟨.ref s.heap.objs.size, _, I.laid (a := s.heap.objs.size) (o := nkO X.prog X.w s.heap.objs.size []) (t' := s.toks) (fun _ _ q => Heap.get?_push_of_some _ q) (Nat.le_refl _)
    (nkO_new (beq_eq_false_iff_ne.mpr (Ne.symm (Nat.ne_of_lt I.big))) (Nat.zero_le _) (Heap.DictOfH.new _)), rfl, h _ (I.hok.fresh (Nat.le_refl _))⟩⟩
theorem nk_is {d : PyData} {p : Addr} (I : Inv X pins σ H s) (h : Im H d (.ref p)) (q : (nk d).depth ≤ 8) : (nestedKind X.prog X.w).is s.heap (nk d) p := ⟨im_nested I d _ _ h rfl, q⟩
theorem op_notInN : OpR X (compareOp .NotIn) (fun x y H Q => ∃ p kd xs d, x = .ref p ∧ y = .ref kd ∧ H kd = some (nkO X.prog X.w kd xs) ∧ KeysIn H xs ∧ Im H d (.ref p) ∧ (nk d).depth ≤ 8 ∧ X.A.units + 64 < cLine ∧ Q (.bl (!(atKey xs (nk d)).isSome)) H) := by
  intro pins s σ H x y v u Q I rx ry h
  obtain ⟨p, kd, xs, d, rfl, rfl, e, k, hd, hq, hu, q⟩ := h
  cases rx
  cases ry
  obtain ⟨h1, h2, h3⟩ := nk_at I e k
  refine notIn_keyed (show X.A.in1.units + 8 < cLine from (by show X.A.units + 1 + 8 < cLine; omega)) (nk_is I hd hq) h1 ⟨xs, h3, rfl⟩ ?_
  rw [valueAt_pairsH, Option.isSome_map]
  exact ⟨.bl _, H, I.tok _, rfl, q⟩
theorem ix_nk : IxR X (fun x y H Q => ∃ p kd xs d n a t, x = .ref kd ∧ y = .ref p ∧ H kd = some (nkO X.prog X.w kd xs) ∧ KeysIn H xs ∧ Im H d (.ref p) ∧ (nk d).depth ≤ 8 ∧ X.A.units + 64 < cLine ∧ atKey xs (nk d) = some (a, .int n t) ∧ Q (.int n) H) := by
  intro value slice pins s σ H x y v u Q I rx ry h hs
  obtain ⟨p, kd, xs, d, n, a, t, rfl, rfl, e, k, hd, hq, hu, he, q⟩ := h
  cases rx
  cases ry
  obtain ⟨h1, h2, h3⟩ := nk_at I e k
  exact tail_any h3.typeIs slot_dict_getitem.lookup (wpAny_getItem_heap (show X.A.in1.units + 8 < cLine from (by show X.A.units + 1 + 8 < cLine; omega)) (nk_is I hd hq) h3 he ⟨.int n, H, I.tok _, ⟨t, rfl⟩, q⟩) hs
theorem storedH_len {K : Type} [DecidableEq K] {xs : List (K × Addr × Value)} {k : K} {a : Addr} {v : Value} : (storedH xs k a v).length ≤ xs.length + 1 := by
  unfold storedH
  split <;> simp
theorem mem_storedH {K : Type} [DecidableEq K] {xs : List (K × Addr × Value)} {k : K} {a : Addr} {v : Value} {x : K × Addr × Value} (h : x ∈ storedH xs k a v) : x ∈ xs ∨ (x.1 = k ∧ x.2.2 = v ∧ (x.2.1 = a ∨ ∃ y ∈ xs, y.1 = k ∧ y.2.1 = x.2.1)) := by
  unfold storedH at h
  split at h
  · obtain ⟨y, hy, rfl⟩ := List.mem_map.mp h
    unfold putAt
    by_cases e : y.1 = k
    · rw [if_pos e]
      exact .inr ⟨e, rfl, .inr ⟨y, hy, e, rfl⟩⟩
    · rw [if_neg e]
      exact .inl hy
  · rcases List.mem_append.mp h with h | h
    · exact .inl h
    · rw [List.mem_singleton] at h
      subst h
      exact .inr ⟨rfl, rfl, .inl rfl⟩
theorem atKey_stored {K : Type} [DecidableEq K] {xs : List (K × Addr × Value)} {k : K} {a : Addr} {v : Value} (h : atKey xs k = none) : atKey (storedH xs k a v) k = some (a, v) := by
  rw [storedH_new h]
  unfold atKey at h ⊢
  have h : xs.find? (fun x => decide (x.1 = k)) = none := Option.map_eq_none_iff.mp h
  rw [List.find?_append, h]
  simp
theorem set_nk : PSet X (fun o i v H Q => ∃ p kd xs d n, o = .ref kd ∧ i = .ref p ∧ v = .int n ∧ H kd = some (nkO X.prog X.w kd xs) ∧ KeysIn H xs ∧ Im H d (.ref p) ∧ (nk d).depth ≤ 8 ∧ X.A.units + 64 < cLine ∧ xs.length < sizeLine ∧ ∀ t, Q (upd H kd (nkO X.prog X.w kd (storedH xs (nk d) p (.int n t))))) := by
  intro pins s σ H o i v ov iv u Q I ro ri rv h
  obtain ⟨p, kd, xs, d, n, rfl, rfl, rfl, e, k, hd, hq, hu, hz, q⟩ := h
  cases ro
  cases ri
  obtain ⟨t, rfl⟩ := (show ∃ t, u = Value.int n t from rv)
  obtain ⟨h1, h2, h3⟩ := nk_at I e k
  refine wpAny_setItem_heap (hsz := h2) (show X.A.in1.units + 8 < cLine from (by show X.A.units + 1 + 8 < cLine; omega)) (nk_is I hd hq) h3 fun h' hm hs => ?_
  have he : ∃ q, h'.get? kd = some q := let ⟨q, _, _, hq, _⟩ := hm; ⟨q, hq⟩
  have hl : (storedH xs (nk d) p (.int n t)).length ≤ xs.length + 1 := storedH_len
  exact ⟨_, d_write (t' := s.toks + (nestedKind X.prog X.w).draws (nk d)) I (by rw [e]; exact True.intro) hs he (nkO_new h1 (by omega) hm), q t⟩
end
end Dw
/-! Dw: methods and attributes; Counter.nexts -/
namespace Dw
open PySem PySem.Spec PyProof.Rows L2
/-- a promise by data and what the heap holds -/
def SpH (φ : Hp → List Sl → Sl → Prop) : Sp := fun vs H Q _ => ∃ ss r, Paired (ArgOk H) ss vs ∧ φ H ss r ∧ ∀ v H', Same H H' → SlOk H H' (some v) r → Q v H'
theorem okH {m : Md} {x qual : Str} {st : Stmt} {f : Addr} {fd : FuncData} {N ps : List Str} {k : Nat} {φ : Hp → List Sl → Sl → Prop} (F : Fun m.K x qual st f fd) (S : FnScope N ps (defScope st)) (hl : ∀ H ss r, φ H ss r → ss.length = ps.length)
    (body : ∀ (rt : Rt) (ss : List Sl) (r : Sl) (H : Hp) (σ : L2.St), φ H ss r → Room k (cxD m N qual st f rt).A → (cxD m N qual st f rt).N.Nodup → Good H H σ (ss ++ List.replicate (N.length - ss.length) .un) → RSs (cxD m N qual st f rt) (defBody st) (Dr H r) σ H) : FnOk m.P m.w m.K m.mg m.base CX0 (k + 1) f fd ps (SpH φ) := by
  have hle : ps.length ≤ N.length := by
    have e := congrArg List.length S.pre
    rw [List.length_take] at e
    omega
  refine F.ok S (fun vs H Q E ⟨ss, r, h1, h2, _⟩ => by rw [← Paired.length h1]; exact hl H ss r h2) fun cdv A outer s H vs Q E hr ⟨ss, r, h1, h2, h3⟩ => ?_
  have q := body ⟨cdv, A, outer, s, H, E⟩ ss r H (L2.start N vs) h2 hr S.nd (start_good (by rw [hl H ss r h2]; exact hle) h1)
  exact ⟨RSs (cxD m N qual st f ⟨cdv, A, outer, s, H, E⟩) (defBody st), rss_pss, q.imp (fun σ H' ⟨s1, q1⟩ => h3 _ _ s1 q1) (fun v H' ⟨s1, q1⟩ => h3 _ _ s1 q1) (fun _ _ z => z.elim) (fun _ _ z => z.elim)⟩
/-- a def of a class as the top leaves it -/
structure Mf (m : Md) (C : Addr) (x qual : Str) (st : Stmt) (ps : List Str) : Prop where
  ex : ∃ (f : Addr) (fd : FuncData), Fun m.K x qual st f fd ∧ Binds m.K fd ps [] ∧ Meth m.K C x f
/-- a method and its promise -/
structure KmG (m : Md) (C : Addr) (x : Str) (ps : List Str) (k : Nat) (sp : Sp) : Prop where
  ex : ∃ (f : Addr) (fd : FuncData), FnOk m.P m.w m.K m.mg m.base CX0 k f fd ps sp ∧ Binds m.K fd ps [] ∧ Meth m.K C x f
theorem KmG.mono {m : Md} {C : Addr} {x : Str} {ps : List Str} {k k' : Nat} {sp : Sp} (K : KmG m C x ps k sp) (h : k ≤ k') : KmG m C x ps k' sp := by
  obtain ⟨f, fd, h1, h2, h3⟩ := K.ex
  exact ⟨f, fd, h1.mono h, h2, h3⟩
section
variable {X : Cx} {B B0 H : Hp} {σ : L2.St} {Γ : List Sl} {a b c e o : Expr} {pos p p1 p2 apos : Pos} {d : PyData} {ds : List PyData} {x f nm : Str} {R : VR} {v : V} {C dx s : Addr} {fs : List (Str × V)} {es : List Expr} {ss : List Sl} {r : Sl} {k k' : Nat} {ps : List Str}
theorem ex_fld (he : EX X e σ H (.ref s)) (hi : H s = some (.ins C dx fs)) (hc : Cls X.K C) (n : NoAttr X.K C f) (l : fs.lookup f = some v) (hb : attributeBase e f X.env (eval e X.env) = eval e X.env := by rfl) : EX X (.Attribute e f pos) σ H v :=
  ev_pe (pe_fld re_pe hb) fun H1 s1 Q q => he H1 s1 _ fun x H2 s2 hx => ⟨s, C, dx, fs, v, hx, s2 _ _ (s1 _ _ hi), hc, n, l, q v H2 s2 rfl⟩
theorem EX.ed (he : EX X e σ H v) (h : Im H d v) : ED X e σ H d := fun H1 s1 Q q => he H1 s1 Q fun u H2 s2 hu => q u H2 s2 (by rw [show u = v from hu]; exact h.mono (Tk.of (s1.trans s2)))
/-- o.m(e, ..) -/
theorem ev_meth {pl : Sem Bool} {φ : Hp → List Sl → Sl → Prop} (K : KmG (mdOf X) C nm ps k (SpH φ)) (hc : Cls X.K C) (ho : EX X o σ H (.ref s)) (hi : H s = some (.ins C dx fs)) (l : fs.lookup nm = none) (ha : AS X (e :: es) σ H ss) (hφ : ∀ H', Same H H' → φ H' (.raw (.ref s) :: ss) r) (hR : ∀ H1 H2 H3 v, Same H1 H2 → SlOk H2 H3 (some v) r → R H1 H3 v) (hr : Room k X.A)
    (hst : starEach (e :: es) X.env = (false, eval e X.env) :: starEach es X.env) (hpl : (backTo pos (starEach es X.env)).any (·.1) = false)
    (ht : eval (.Call (.Attribute o nm apos) (e :: es) [] pos) X.env = (do
      let ov ← eval o X.env
      standAt apos.atName
      let (f, first) ← holding [ov] (getMethod ov nm pl)
      callWith pos f first (backTo pos (starEach (e :: es) X.env)) (backToKw pos (keywordEach [] X.env)))) : EV X (.Call (.Attribute o nm apos) (e :: es) [] pos) σ H R := by
  obtain ⟨f, fd, h1, h2, h3⟩ := K.ex
  obtain ⟨Rs, h5, h6⟩ := ha
  refine ev_pe (pe_meth (CX := CX0) (E := E0) re_pe hc h3 h1 hr h2 .nil pass0 ra_pa hst hpl ht) fun H1 s1 Q q => ho H1 s1 _ fun x H2 s2 hx => ⟨s, dx, fs, hx, s2 _ _ (s1 _ _ hi), l, h5.1 H2 (s1.trans s2) _ fun vs H3 s3 kk => ?_⟩
  rw [List.append_nil, show x = .ref s from hx]
  exact ⟨.raw (.ref s) :: ss, r, .cons ⟨rfl, rfl⟩ (h6 _ _ _ kk), hφ H3 ((s1.trans s2).trans s3), fun v H' s4 w => q v H' ((s2.trans s3).trans s4) (hR _ _ _ _ (s2.trans s3) w)⟩
end
/-! ### Counter -/
def clsB (st : Stmt) (i : Nat) : Stmt := match st with
  | .ClassDef _ _ _ body .. => body.getD i (.Pass ⟨0, 0, 0, 0⟩)
  | _ => .Pass ⟨0, 0, 0, 0⟩
abbrev sCtr : Stmt := topS 55
abbrev sCInit : Stmt := clsB sCtr 0
abbrev sNexts : Stmt := clsB sCtr 1
abbrev sWays : Stmt := clsB sCtr 2
abbrev sRank : Stmt := clsB sCtr 4
structure Ctr (m : Md) (C : Addr) : Prop where
  cls : Cls m.K C
  nH : NoAttr m.K C "halls"
  nG : NoAttr m.K C "goal"
  nS : NoAttr m.K C "size"
  nK : NoAttr m.K C "known"
  mg : m.mg "Counter" = some (.ref C)
  init : ∃ (f : Addr) (fd : FuncData), Fun m.K "__init__" "Counter.__init__" sCInit f fd ∧ Binds m.K fd ["self", "halls", "work"] [] ∧ Mk m.K C f
  nexts : Mf m C "nexts" "Counter.nexts" sNexts ["self", "one"]
  ways : Mf m C "ways" "Counter.ways" sWays ["self", "one", "so_far"]
  rank : Mf m C "rank" "Counter.rank" sRank ["self", "work"]
def ctrFs (h : Nat) (g : V) (n : Nat) (kd : Addr) : List (Str × V) := [("halls", .int h), ("goal", g), ("size", .int n), ("known", .ref kd)]
def CtrAt (C : Addr) (H : Hp) (a kd : Addr) (h : Nat) (goal : Card) (n : Nat) : Prop := ∃ dx g, H a = some (.ins C dx (ctrFs h g n kd)) ∧ Im H (cardD goal) g
theorem CtrAt.mono {C a kd : Addr} {H H' : Hp} {h n : Nat} {goal : Card} (c : CtrAt C H a kd h goal n) (s : Same H H') : CtrAt C H' a kd h goal n := by
  obtain ⟨dx, g, e, i⟩ := c
  exact ⟨dx, g, s _ _ e, i.mono (Tk.of s)⟩
def nxAt (goal c : Card) (d : Nat) : List (Nat × Card) := if gi (openedM c d) d 0 ≤ gi goal d 0 then [(d, openedM c d)] else []
def nxM (goal c : Card) (k : Nat) : List (Nat × Card) := (List.range k).flatMap (nxAt goal c)
def nxD (p : Nat × Card) : PyData := .tuple [.str ⟨#[p.1 + 49]⟩, cardD p.2]
theorem nxM_len (goal c : Card) (k : Nat) : (nxM goal c k).length ≤ k := by
  have := flat_len (nxAt goal c) 1 k fun i _ => by unfold nxAt; split <;> simp
  unfold nxM
  omega
theorem scNexts : FnScope ["self", "one", "found", "door", "more"] ["self", "one"] (defScope sNexts) := ⟨rfl, rfl, rfl, by decide +kernel, rfl, by decide +kernel, by decide +kernel⟩
def φNexts (C : Addr) (H : Hp) (ss : List Sl) (r : Sl) : Prop := ∃ (a kd : Addr) (h n : Nat) (goal c : Card), ss = [.raw (.ref a), .dat (cardD c)] ∧ CtrAt C H a kd h goal n ∧ h ≤ 6 ∧ Shape h goal ∧ Shape h c ∧ r = .lst ((nxM goal c h).map nxD)
abbrev KNexts (m : Md) (C : Addr) := KmG m C "nexts" ["self", "one"] 2 (SpH (φNexts C))
theorem sign_doors : ∀ d : Nat, d < 6 → ("123456" : Str).cps.toList[d]? = some (d + 49) := by
  intro d h
  have : d = 0 ∨ d = 1 ∨ d = 2 ∨ d = 3 ∨ d = 4 ∨ d = 5 := by omega
  rcases this with rfl | rfl | rfl | rfl | rfl | rfl <;> decide +kernel
theorem kn_nexts {m : Md} {C : Addr} (T : Tx m) (CT : Ctr m C) (K1 : KOpened m) : KNexts m C := by
  obtain ⟨f, fd, h1, h2, h3⟩ := CT.nexts.ex
  refine ⟨f, fd, okH h1 scNexts (fun H ss r ⟨_, _, _, _, _, _, e, _⟩ => by rw [e]; rfl) fun rt ss r H σ hφ hr nd G => ?_, h2, h3⟩
  obtain ⟨a, kd, h, n, goal, c, rfl, CA, h6, SG, S, rfl⟩ := hφ
  obtain ⟨t1, mD⟩ := T.doors
  refine rss_setN 2 en_nil fun σ H G => ?_
  obtain ⟨dx, g, e0, ig⟩ := CA
  refine rss_forR1 3 (EX.ed (d := .int (h : Nat)) (ex_fld (vx 0) (G.same _ _ e0) CT.cls CT.nH rfl) (im_int _)) (by omega) (by omega) (fun i Γ => Γ = [.raw (.ref a), .dat (cardD c), .lst ((nxM goal c i).map nxD), .un, .un]) rfl (fun B' sB i Γ σ H hi j G => ?_) (fun B' sB Γ σ H j G => ?_) (by rfl) T.range
  · subst j
    rw [Int.toNat_natCast] at hi
    have SO := shape_opened S i
    refine rss_set 4 (ed_call K1 (as_d (vd 1) (as_d (vd 3) as_0)) ⟨h, i, c, rfl, S, h6, hi, rfl⟩) fun σ H G => ?_
    have eN : nxM goal c (i + 1) = nxM goal c i ++ nxAt goal c i := range_flat _ _
    have sH := sB.trans G.same
    refine rss_ifJ (fun Γ => Γ = [.raw (.ref a), .dat (cardD c), .lst ((nxM goal c (i + 1)).map nxD), .un, .un]) (et_le (ixI 0 (ixR i (vd 4) (vd 3) rfl (by rw [SO.len]; exact hi)) ed_int rfl (by rw [SO.row i hi]; omega))
      (ixI 0 (ixR i (EX.ed (d := cardD goal) (ex_fld (vx 0) (sH _ _ e0) CT.cls CT.nG rfl) (ig.mono (Tk.of sH))) (vd 3) rfl (by rw [SG.len]; exact hi)) ed_int rfl (by rw [SG.row i hi]; omega))) (fun H G z => ?_) (fun H G z => ?_) fun Γ σ H j G => rss_nil ⟨_, j, G⟩
    · refine rss_app (d := nxD (i, openedM c i)) 2 rfl (ed_tup (ds := [.str _, cardD _]) (ea_d (ed_ixS i (ed_gS (by rfl) mD) (vd 3) rfl (sign_doors i (by omega)) (by decide +kernel)) (ea_d (vd 4) ea_0))) ?_ fun H G => ?_
      · refine smallL _ ?_
        rw [List.length_map]
        have := nxM_len goal c i
        omega
      refine rss_nil ⟨_, rfl, ?_⟩
      rw [eN, List.map_append, nxAt, if_pos (show gi (openedM c i) i 0 ≤ gi goal i 0 from of_decide_eq_true z)]
      exact G.wk
    · refine rss_nil ⟨_, rfl, ?_⟩
      rw [eN, List.map_append, nxAt, if_neg (show ¬ gi (openedM c i) i 0 ≤ gi goal i 0 from of_decide_eq_false z), List.map_nil, List.append_nil]
      exact G.wk
  · subst j
    rw [Int.toNat_natCast] at G
    exact rss_retL 2 rfl
end Dw
/-! Dw: Counter.ways -/
namespace Dw
open PySem PySem.Spec PyProof.Rows L2
def waysM (goal : Card) (h : Nat) : Nat → Card → Int
  | 0, c => if PyData.eqv (cardD c) (cardD goal) = true then 1 else 0
  | r + 1, c => ((nxM goal c h).map fun p => waysM goal h r p.2).sum
def cnt : Nat → Nat
  | 0 => 0
  | r + 1 => 1 + 6 * cnt r
def Memo (goal : Card) (h n : Nat) (xs : Ent) : Prop := ∀ x ∈ xs, ∀ c t, x.1 = nk (keyD c t) → ∃ tok, x.2.2 = .int (waysM goal h (n - t) c) tok
structure MemoAt (P : Program) (w : World) (goal : Card) (h n : Nat) (kd : Addr) (H : Hp) (xs : Ent) : Prop where
  at_ : H kd = some (nkO P w kd xs)
  keys : KeysIn H xs
  memo : Memo goal h n xs
theorem tk_rm {P : Program} {w : World} {kd : Addr} {H H' : Hp} {xs : Ent} (e : H kd = some (nkO P w kd xs)) (s : Same (rm H kd) H') : Tk H H' := fun a ys h => by
  refine s a _ ?_
  rw [rm_ne (fun z => by rw [z, e] at h; cases h)]
  exact h
theorem MemoAt.mono {P : Program} {w : World} {goal : Card} {h n : Nat} {kd : Addr} {H H' : Hp} {xs : Ent} (M : MemoAt P w goal h n kd H xs) (s : Same H H') : MemoAt P w goal h n kd H' xs := ⟨s _ _ M.at_, M.keys.mono (Tk.of s), M.memo⟩
theorem same_rm {H H' : Hp} {kd : Addr} (s : Same H H') : Same (rm H kd) (rm H' kd) := fun a o e => by
  by_cases c : a = kd
  · rw [c, rm_same] at e
    cases e
  · rw [rm_ne c] at e ⊢
    exact s a o e
theorem same_rm' {H H' : Hp} {kd : Addr} (s : Same (rm H kd) H') : Same (rm H kd) (rm H' kd) := fun a o e => by
  by_cases c : a = kd
  · rw [c, rm_same] at e
    cases e
  · rw [rm_ne c]
    exact s a o e
theorem rm_upd {H : Hp} {kd : Addr} {o : HO} : Same (rm H kd) (upd H kd o) := fun a u e => by
  by_cases c : a = kd
  · rw [c, rm_same] at e
    cases e
  · rw [rm_ne c] at e
    rw [upd_ne c]
    exact e
theorem Good.tk {B H H' : Hp} {σ : L2.St} {Γ : List Sl} (G : Good B H σ Γ) (s : Same B H') (t : Tk H H') (h : Γ.all (fun sl => !sl.own) = true := by rfl) : Good B H' σ Γ := by
  have hn : ∀ (i : Nat) (sl : Sl), Γ[i]? = some sl → sl.own = false := fun i sl e => by
    have q := List.all_eq_true.mp h sl (List.mem_of_getElem? e)
    simpa using q
  refine ⟨s, G.len, fun i sl o e1 e2 => ?_, G.apart⟩
  have q := G.at_ i sl o e1 e2
  have n := hn i sl e1
  cases sl with
  | un => trivial
  | dat d => obtain ⟨v, e, q⟩ := q; exact ⟨v, e, q.mono t⟩
  | lst ds => cases n
  | rls ds => exact q
  | dic kvs => cases n
  | raw v => exact q
section
variable {X : Cx} {B B0 H : Hp} {σ : L2.St} {Γ : List Sl} {a b c e o : Expr} {pos p p1 p2 apos : Pos} {ds : List PyData} {kd : Addr} {xs : Ent} {rest : List Stmt} {D : Ends} {n : Int}
theorem et_notInN (hu : X.A.units + 64 < cLine) (ha : ED X a σ H (.tuple ds)) (hb : EX X b σ H (.ref kd)) (e : H kd = some (nkO X.prog X.w kd xs)) (k : KeysIn H xs) (hd : (nk (.tuple ds)).depth ≤ 8) (hm : behindInMarks .NotIn b = false := by with_unfolding_all rfl) : ET X (.Compare a [.NotIn] [b] pos) σ H (!(atKey xs (nk (.tuple ds))).isSome) := fun H1 s1 Q q =>
  RT.of (pt_cmpR op_notInN re_pe re_pe hm) (ha H1 s1 _ fun x H2 s2 hx => hb H2 (s1.trans s2) _ fun y H3 s3 hy => by
    have hx : Im H2 (.tuple ds) x := hx
    obtain ⟨l, vs, rfl, h1, h2⟩ := hx.ofTup
    exact ⟨l, kd, xs, .tuple ds, rfl, hy, ((s1.trans s2).trans s3) _ _ e, k.mono (Tk.of ((s1.trans s2).trans s3)), hx.mono (Tk.of s3), hd, hu, _, rfl, q H3 (s2.trans s3)⟩)
theorem ed_ixNk {ad : Addr} {tok : Tok} (hu : X.A.units + 64 < cLine) (ha : EX X a σ H (.ref kd)) (hb : ED X b σ H (.tuple ds)) (e : H kd = some (nkO X.prog X.w kd xs)) (k : KeysIn H xs) (hd : (nk (.tuple ds)).depth ≤ 8) (hat : atKey xs (nk (.tuple ds)) = some (ad, .int n tok)) (hs : PlainIx b := by exact fun _ _ => rfl) : ED X (.Subscript a b pos) σ H (.int n) :=
  ev_pe (pe_ix ix_nk re_pe re_pe hs) fun H1 s1 Q q => ha H1 s1 _ fun x H2 s2 hx => hb H2 (s1.trans s2) _ fun y H3 s3 hy => by
    have hy : Im H3 (.tuple ds) y := hy
    obtain ⟨l, vs, rfl, h1, h2⟩ := hy.ofTup
    exact ⟨l, kd, xs, .tuple ds, n, ad, tok, hx, rfl, ((s1.trans s2).trans s3) _ _ e, k.mono (Tk.of ((s1.trans s2).trans s3)), hy, hd, hu, hat, q _ H3 (s2.trans s3) (im_int _)⟩
theorem rss_setNk (hu : X.A.units + 64 < cLine) (he : RE X e σ H (fun v H1 => ∃ (n : Int) (xs : Ent) (ds : List PyData), v = .int n ∧ EX X a σ H1 (.ref kd) ∧ ED X b σ H1 (.tuple ds) ∧ H1 kd = some (nkO X.prog X.w kd xs) ∧ KeysIn H1 xs ∧ (nk (.tuple ds)).depth ≤ 8 ∧ xs.length < sizeLine ∧
      ∀ H2 p tok, Same H1 H2 → Im H2 (.tuple ds) (.ref p) → RSs X rest D σ (upd H2 kd (nkO X.prog X.w kd (storedH xs (nk (.tuple ds)) p (.int n tok))))))
    (ha : ∀ v, assign (.Subscript a b p) X.env v = (do
      let ov ← holding [v] (eval a X.env)
      let iv ← holding [v, ov] (eval b X.env)
      standAt p
      holding [v, ov, iv] (setItem ov iv v)
      release [v, ov, iv] []) := by intro _; rfl)
    (hs : swapsWithSole [.Subscript a b p] e pos.line X.env = pure false := by rfl) (hw : swappedStores [.Subscript a b p] e X.env = pure none := by rfl)
    (h1 : (assignEach [.Subscript a b p] X.env).map (·.2) = [assign (.Subscript a b p) X.env] := by rfl) : RSs X (.Assign [.Subscript a b p] e pos :: rest) D σ H :=
  rss_cons (RS.of (ps_asg re_pe (pg_sub re_pe re_pe set_nk ha) hs hw h1) (he.imp fun v H1 ⟨n, xs, ds, e1, h1, h2, h3, h4, h5, h6, q⟩ => h1 H1 (Same.refl _) _ fun x H2 s2 hx => h2 H2 s2 _ fun y H3 s3 hy => by
    have hy : Im H3 (.tuple ds) y := hy
    obtain ⟨l, vs, rfl, g1, g2⟩ := hy.ofTup
    exact ⟨l, kd, xs, .tuple ds, n, hx, rfl, e1, (s2.trans s3) _ _ h3, h4.mono (Tk.of (s2.trans s3)), hy, h5, hu, h6, fun t => q H3 l t (s2.trans s3) hy⟩))
end
/-! ### ways -/
def spWays (P : Program) (w : World) (C : Addr) (r : Nat) : Sp := fun vs H Q _ => ∃ (a kd : Addr) (h n t : Nat) (goal c : Card) (v1 : V) (xs : Ent), vs = [.ref a, v1, .int t] ∧ Im H (cardD c) v1 ∧ CtrAt C (rm H kd) a kd h goal n ∧ h ≤ 6 ∧ Shape h goal ∧ Shape h c ∧ t ≤ n ∧ n - t ≤ r ∧
  MemoAt P w goal h n kd H xs ∧ xs.length + cnt (n - t) ≤ 1000000 ∧ ∀ H' xs', Same (rm H kd) H' → MemoAt P w goal h n kd H' xs' → xs'.length ≤ xs.length + cnt (n - t) → Q (.int (waysM goal h (n - t) c)) H'
abbrev KWays (m : Md) (C : Addr) (r : Nat) := KmG m C "ways" ["self", "one", "so_far"] (3 + r) (spWays m.P m.w C r)
theorem scWays : FnScope ["self", "one", "so_far", "sign", "more"] ["self", "one", "so_far"] (defScope sWays) := ⟨rfl, rfl, rfl, by decide +kernel, rfl, by decide +kernel, by decide +kernel⟩
section
variable {X : Cx} {H : Hp} {σ : L2.St} {e1 e2 o : Expr} {pos apos : Pos} {a kd C : Addr} {h n t r k : Nat} {goal c : Card} {xs : Ent} {Q : VK} {pl : Sem Bool}
theorem re_ways (K : KWays (mdOf X) C r) (hc : Cls X.K C) (ho : EX X o σ H (.ref a)) (h1 : ED X e1 σ H (cardD c)) (h2 : ED X e2 σ H (.int (t : Nat))) (CA : CtrAt C (rm H kd) a kd h goal n) (h6 : h ≤ 6) (SG : Shape h goal) (S : Shape h c) (ht : t ≤ n) (hn : n - t ≤ r)
    (M : MemoAt X.prog X.w goal h n kd H xs) (hl : xs.length + cnt (n - t) ≤ 1000000) (q : ∀ H' xs', Same (rm H kd) H' → MemoAt X.prog X.w goal h n kd H' xs' → xs'.length ≤ xs.length + cnt (n - t) → Q (.int (waysM goal h (n - t) c)) H')
    (hr : Room k X.A) (hk : 3 + r ≤ k) (hst : starEach [e1, e2] X.env = (false, eval e1 X.env) :: starEach [e2] X.env := by rfl) (hst2 : starEach [e2] X.env = (false, eval e2 X.env) :: starEach [] X.env := by rfl) (hpl : (backTo pos (starEach [e2] X.env)).any (·.1) = false := by rfl)
    (htr : eval (.Call (.Attribute o "ways" apos) [e1, e2] [] pos) X.env = (do
      let ov ← eval o X.env
      standAt apos.atName
      let (f, first) ← holding [ov] (getMethod ov "ways" pl)
      callWith pos f first (backTo pos (starEach [e1, e2] X.env)) (backToKw pos (keywordEach [] X.env))) := by rfl) : RE X (.Call (.Attribute o "ways" apos) [e1, e2] [] pos) σ H Q := by
  obtain ⟨f, fd, g1, g2, g3⟩ := K.ex
  refine RE.of (pe_meth (CX := CX0) (E := E0) re_pe hc g3 g1 (hr.mono hk) g2 .nil pass0 ra_pa hst hpl htr) (ho H (Same.refl _) _ fun x H1 s1 hx => ?_)
  have CA' := CA.mono rm_le
  obtain ⟨dx, g, ea, ig⟩ := CA'
  refine ⟨a, dx, _, hx, s1 _ _ ea, rfl, (ea_d h1 (ea_d h2 ea_0 hst2) hst).1 H1 s1 _ fun vs H2 s2 kk => ?_⟩
  obtain ⟨v, u, rfl, hv, hu⟩ := pd2 kk
  rw [List.append_nil, show x = .ref a from hx, show u = .int t from Im.ofInt hu]
  have s12 := s1.trans s2
  exact ⟨a, kd, h, n, t, goal, c, v, xs, rfl, hv, CA.mono (same_rm s12), h6, SG, S, ht, hn, M.mono s12, hl, fun H' xs' s M' l => q H' xs' ((same_rm s12).trans s) M' l⟩
end
end Dw
/-! Dw: comprehensions and loops whose turns change the heap -/
namespace Dw
open PySem PySem.Spec PyProof.Rows L2
theorem wipe_at : ∀ (l : List Nat) (τ : L2.St) (j : Nat), (wipe τ l)[j]? = if j ∈ l then (τ[j]?).map (fun _ => none) else τ[j]? := by
  intro l
  induction l with
  | nil => intro τ j; simp [wipe]
  | cons v vs ih =>
    intro τ j
    show ((wipe τ vs).set v none)[j]? = _
    by_cases c : v = j
    · subst c
      rw [List.getElem?_set]
      simp only [if_true, List.mem_cons, true_or]
      rw [wipe_length]
      by_cases hl : v < τ.length
      · rw [if_pos hl, List.getElem?_eq_getElem hl]; rfl
      · rw [if_neg hl, List.getElem?_eq_none (by omega)]; rfl
    · rw [List.getElem?_set_ne c, ih τ j]
      have : (j ∈ v :: vs) ↔ j ∈ vs := by simp [Ne.symm c]
      simp only [this]
theorem wipe_set {l : List Nat} {τ : L2.St} {t : Nat} {o : Option V} (h : t ∈ l) : wipe (τ.set t o) l = wipe τ l := by
  apply List.ext_getElem?
  intro j
  rw [wipe_at, wipe_at]
  by_cases c : j ∈ l
  · rw [if_pos c, if_pos c]
    by_cases ct : t = j
    · subst ct
      rw [List.getElem?_set]
      simp only [if_true]
      by_cases hl : t < τ.length
      · rw [if_pos hl, List.getElem?_eq_getElem hl]; rfl
      · rw [if_neg hl, List.getElem?_eq_none (by omega)] <;> rfl
    · rw [List.getElem?_set_ne ct]
  · rw [if_neg c, if_neg c]
    have ct : t ≠ j := fun z => c (z ▸ h)
    rw [List.getElem?_set_ne ct]
theorem wipe_wipe {l : List Nat} {τ : L2.St} : wipe (wipe τ l) l = wipe τ l := by
  apply List.ext_getElem?
  intro j
  rw [wipe_at, wipe_at]
  by_cases c : j ∈ l
  · rw [if_pos c, if_pos c]
    cases τ[j]? <;> rfl
  · rw [if_neg c]
theorem wipe_set1 {l : List Nat} {τ : L2.St} {t : Nat} {o : Option V} (h : t ∈ l) : wipe ((wipe τ l).set t o) l = wipe τ l := by rw [wipe_set h, wipe_wipe]
theorem wipe_set2 {l : List Nat} {τ : L2.St} {t u : Nat} {o q : Option V} (h : t ∈ l) (k : u ∈ l) : wipe (((wipe τ l).set t o).set u q) l = wipe τ l := by rw [wipe_set k, wipe_set h, wipe_wipe]
section
variable {X : Cx} {B B0 H : Hp} {σ : L2.St} {Γ : List Sl} {a b c e iter tg elt : Expr} {pos p p1 p2 p3 tpos : Pos} {ds : List PyData} {x y : Str} {rest body orelse : List Stmt} {D : Ends} {Q : VK}
theorem lc_w {wi : TI} {g : TG} {scope : Scope} {own : List (Str × Nat)} (pi : PI X tg iter wi) (ok : BlkOk X.N X.env.scope scope own)
    (pg : ∀ (s : Shared) (H : Hp) (C : Addr) (cl : List (Str × Addr)) (fp : List Addr), PG (X.blk s H scope (compEnvC scope cl C X.env) fp) tg g) (hs : ∀ x, foldedSetIterable iter X.env x = pure x) (mono : ∀ (R R' : It → Hp → Prop), (∀ J H, R J H → R' J H) → wi σ H R → wi σ H R')
    (h : wi σ H fun J H1 => ∀ D, H1 D = none → ∃ (n : Nat) (Gp : Hp → Prop) (Y : Nat → Hp → V → Hp → Prop) (P : Nat → Hp → Prop), Walk J n Gp Y ∧ P 0 (upd H1 D (.lst [])) ∧ (∀ i H, i ≤ n → P i H → Gp H) ∧
      (∀ i x H H', i < n → P i H → Y i H x H' → g x (wipe σ (own.map (·.2))) H' fun σ2 H2 => wipe σ2 (own.map (·.2)) = wipe σ (own.map (·.2)) ∧ ∀ s0 H0 C cl fp, RE (X.blk s0 H0 scope (compEnvC scope cl C X.env) fp) elt σ2 H2 fun y H4 => ∃ acc, H4 D = some (.lst acc) ∧ acc.length < sizeLine ∧ P (i + 1) (upd H4 D (.lst (acc ++ [y])))) ∧
      ∀ H, P n H → Q (.ref D) H) : LC X elt tg iter [] scope own σ H Q := by
  refine ⟨wi, g, tYes, fun σ H Q => ∀ s0 H0 C cl fp, RE (X.blk s0 H0 scope (compEnvC scope cl C X.env) fp) elt σ H Q, pi, ok, pg, fun _ _ _ _ _ => pts_nil, fun s H C cl fp => ⟨fun pins s' σ H Q I h => h _ _ _ _ _ pins s' I⟩, hs, ?_⟩
  refine mono _ _ (fun J H1 k D hD => ?_) h
  obtain ⟨n, Gp, Y, P, w, h0, hG, st, hd⟩ := k D hD
  exact lc_it (g := g) (tt := tYes) (te := fun σ H Q => ∀ s0 H0 C cl fp, RE (X.blk s0 H0 scope (compEnvC scope cl C X.env) fp) elt σ H Q) (vs := own.map (·.2)) (σ := σ) w P h0 hG (fun i x H H' hi p y => st i x H H' hi p y) hd
/-- [elt for a, b in a new list of pairs] -/
theorem lc_pairs {scope : Scope} {own : List (Str × Nat)} {px py : Pos} {kt : Nat} (t u : Nat) (ha : EN X iter σ H ds) (ok : BlkOk X.N X.env.scope scope own)
    (h : ∀ H1 l vs, Same H H1 → H1 l = some (.lst vs) → ImAll H1 ds vs → ∀ D, H1 D = none → ∃ P : Nat → Hp → Prop, P 0 (upd H1 D (.lst [])) ∧ (∀ i H', P i H' → H' l = some (.lst vs) ∧ Tk H1 H') ∧
      (∀ i H' d, i < ds.length → ds[i]? = some d → P i H' → ∃ d1 d2, d = .tuple [d1, d2] ∧ ∀ v1 v2, Im H' d1 v1 → Im H' d2 v2 → ∀ s0 H0 C cl fp, RE (X.blk s0 H0 scope (compEnvC scope cl C X.env) fp) elt (((wipe σ (own.map (·.2))).set t (some v1)).set u (some v2)) H' fun y H4 => ∃ acc, H4 D = some (.lst acc) ∧ acc.length < sizeLine ∧ P (i + 1) (upd H4 D (.lst (acc ++ [y])))) ∧
      ∀ H', P ds.length H' → Q (.ref D) H')
    (nd : X.N.Nodup := by assumption) (hc : X.calm = true := by rfl) (ht : t ∈ own.map (·.2) := by decide) (hu : u ∈ own.map (·.2) := by decide) (hi : X.N[t]? = some x := by rfl) (hj : X.N[u]? = some y := by rfl)
    (hx : ∀ (cl : List (Str × Addr)) (C : Addr), Loc (compEnvC scope cl C X.env).scope x := by first | exact fun _ _ => Or.inl rfl | exact fun _ _ => Or.inr rfl) (hf : ∀ (cl : List (Str × Addr)) (C : Addr), (scope.names.lookup x == some .cell) = true ∨ (compEnvC scope cl C X.env).scope.names.lookup x = some .local := by first | exact fun _ _ => .inr rfl | exact fun _ _ => .inl rfl)
    (hy : ∀ (cl : List (Str × Addr)) (C : Addr), Loc (compEnvC scope cl C X.env).scope y := by first | exact fun _ _ => Or.inl rfl | exact fun _ _ => Or.inr rfl) (hf2 : ∀ (cl : List (Str × Addr)) (C : Addr), (scope.names.lookup y == some .cell) = true ∨ (compEnvC scope cl C X.env).scope.names.lookup y = some .local := by first | exact fun _ _ => .inr rfl | exact fun _ _ => .inl rfl)
    (h1 : ∀ (cl : List (Str × Addr)) (C : Addr), (assignEach [.Name x px, .Name y py] (compEnvC scope cl C X.env)).length = 2 := by exact fun _ _ => rfl) (h2 : ∀ (cl : List (Str × Addr)) (C : Addr), (assignEach [.Name x px, .Name y py] (compEnvC scope cl C X.env)).findIdx? (·.1) = none := by exact fun _ _ => rfl)
    (h3 : ∀ (cl : List (Str × Addr)) (C : Addr), (assignEach [.Name x px, .Name y py] (compEnvC scope cl C X.env)).map (·.2) = assign (.Name x px) (compEnvC scope cl C X.env) :: (assignEach [.Name y py] (compEnvC scope cl C X.env)).map (·.2) := by exact fun _ _ => rfl)
    (h4 : ∀ (cl : List (Str × Addr)) (C : Addr), (assignEach [.Name y py] (compEnvC scope cl C X.env)).map (·.2) = assign (.Name y py) (compEnvC scope cl C X.env) :: (assignEach [] (compEnvC scope cl C X.env)).map (·.2) := by exact fun _ _ => rfl)
    (hs : ∀ x, foldedSetIterable iter X.env x = pure x := by intro _; rfl) : LC X elt (.Tuple [.Name x px, .Name y py] kt tpos) iter [] scope own σ H Q := by
  refine lc_w (g := gTup X.K 2 (gCons (gName t) (gCons (gName u) gNil))) (pi_list re_pe) ok (fun s H C cl fp => pg2 (X := X.blk s H scope (compEnvC scope cl C X.env) fp) t u nd hc hi (hx cl C) (hf cl C) hj (hy cl C) (hf2 cl C) (h1 cl C) (h2 cl C) (h3 cl C) (h4 cl C)) hs (fun R R' k h => RE.imp h fun v H1 ⟨a, e1, q, r⟩ => ⟨a, e1, q, k _ _ r⟩) ?_
  refine ha H (Same.refl _) _ fun v H1 s1 ⟨l, vs, e1, n1, g1, g2⟩ => ⟨l, e1, ⟨vs, SqL.of g1⟩, fun D hD => ?_⟩
  obtain ⟨P, p0, pG, st, hd⟩ := h H1 l vs s1 g1 g2 D hD
  have hl := g2.length
  refine ⟨vs.length, _, _, P, walk_list, p0, fun i H' _ p => SqL.of (pG i H' p).1, fun i x H' H'' hi p ⟨eH, ex⟩ => ?_, fun H' p => hd H' (by rw [← hl]; exact p)⟩
  subst eH
  have hi2 : i < ds.length := by omega
  obtain ⟨d1, d2, ed, k⟩ := st i H'' _ hi2 (List.getElem?_eq_getElem hi2) p
  obtain ⟨v, e2, q2⟩ := g2.get (List.getElem?_eq_getElem hi2)
  rw [ex] at e2
  cases e2
  rw [ed] at q2
  obtain ⟨T, ws, rfl, r1, r2⟩ := q2.ofTup
  obtain ⟨v1, w1, rfl, i1, r3⟩ := r2.uncons
  obtain ⟨v2, w2, rfl, i2, r4⟩ := r3.uncons
  have e4 : w2 = [] := by simpa only [ImAll] using r4
  subst e4
  have tk := (pG i H'' p).2
  refine ⟨T, [v1, v2], rfl, SqT.of (tk _ _ r1), rfl, v1, [v2], rfl, v2, [], rfl, rfl, wipe_set2 ht hu, k v1 v2 (i1.mono tk) (i2.mono tk)⟩
/-- if, and then on under what holds -/
theorem rss_ifP {k : Bool} (P : L2.St → Hp → Prop) (hc : ET X c σ H k) (h1 : ∀ H', Same H H' → k = true → RSs X body { D with nx := P } σ H') (h2 : ∀ H', Same H H' → k = false → RSs X orelse { D with nx := P } σ H') (h3 : ∀ σ H, P σ H → RSs X rest D σ H) : RSs X (.If c body orelse pos :: rest) D σ H :=
  rss_cons (RS.of (ps_if rt_pt rss_pss rss_pss) (hc H (Same.refl _) _ fun H1 s1 => by
    cases k with
    | true => exact iteT ((h1 H1 s1 rfl).imp h3 (fun _ _ q => q) (fun _ _ q => q) (fun _ _ q => q))
    | false => exact iteF ((h2 H1 s1 rfl).imp h3 (fun _ _ q => q) (fun _ _ q => q) (fun _ _ q => q))))
end
theorem same_updN {B H : Hp} {D : Addr} {o : HO} (s : Same B H) (h : B D = none) : Same B (upd H D o) := fun a u e => by
  rw [upd_ne (ne_of_none e h)]
  exact s a u e
theorem atKey_any {K : Type} [DecidableEq K] {xs : List (K × Addr × Value)} {k : K} {a : Addr} {v : Value} : ∃ ad, atKey (storedH xs k a v) k = some (ad, v) := by
  cases h : atKey xs k with
  | none => exact ⟨a, atKey_stored h⟩
  | some p =>
    rw [storedH_old h]
    have key : ∀ (ys : List (K × Addr × Value)), atKey (ys.map (putAt k v)) k = (atKey ys k).map fun p => (p.1, v) := by
      intro ys
      induction ys with
      | nil => rfl
      | cons y ys ih =>
        unfold atKey at ih ⊢
        by_cases c : y.1 = k
        · have e : putAt k v y = (y.1, y.2.1, v) := if_pos c
          rw [List.map_cons, e, List.find?_cons_of_pos (by simpa using c), List.find?_cons_of_pos (by simpa using c)]
          rfl
        · have e : putAt k v y = y := if_neg c
          rw [List.map_cons, e, List.find?_cons_of_neg (by simpa using c), List.find?_cons_of_neg (by simpa using c)]
          exact ih
    rw [key xs, h]
    exact ⟨p.1, rfl⟩
theorem smallL10 {n : Nat} (h : n < 1000000) : n < sizeLine := Nat.lt_trans h (by decide)
theorem nxM_mem {goal c : Card} {k : Nat} {p : Nat × Card} (h : p ∈ nxM goal c k) : ∃ d, d < k ∧ p = (d, openedM c d) := by
  unfold nxM at h
  obtain ⟨d, hd, h⟩ := List.mem_flatMap.mp h
  unfold nxAt at h
  split at h
  · rw [List.mem_singleton] at h
    exact ⟨d, List.mem_range.mp hd, h⟩
  · cases h
/-! ### ways, the body -/
theorem kn_ways_at {m : Md} {C : Addr} (T : Tx m) (CT : Ctr m C) (K1 : KNexts m C) (r : Nat) (Kp : ∀ r', r = r' + 1 → KWays m C r') : KWays m C r := by
  obtain ⟨f, fd, h1, h2, h3⟩ := CT.ways.ex
  refine ⟨f, fd, ?_, h2, h3⟩
  rw [Nat.add_comm 3 r]
  refine h1.ok scWays (fun vs H Q E ⟨_, _, _, _, _, _, _, _, _, e, _⟩ => by rw [e]; rfl) fun cdv A outer s H vs Q E hr hsp => ?_
  obtain ⟨a, kd, h, n, t, goal, c, v1, xs, rfl, hv1, CA, h6, SG, S, ht, hn, M, hl, q⟩ := hsp
  have hr : Room (2 + r) (cxD m ["self", "one", "so_far", "sign", "more"] "Counter.ways" sWays f ⟨cdv, A, outer, s, H, E⟩).A := by rw [Nat.add_comm 2 r]; exact hr
  have nd : (cxD m ["self", "one", "so_far", "sign", "more"] "Counter.ways" sWays f ⟨cdv, A, outer, s, H, E⟩).N.Nodup := scWays.nd
  refine ⟨RSs (cxD m ["self", "one", "so_far", "sign", "more"] "Counter.ways" sWays f ⟨cdv, A, outer, s, H, E⟩) (defBody sWays), rss_pss, ?_⟩
  have G : Good (rm H kd) H (L2.start ["self", "one", "so_far", "sign", "more"] [V.ref a, v1, V.int t]) [.raw (.ref a), .dat (cardD c), .dat (.int (t : Nat)), .un, .un] :=
    (start_good (N := ["self", "one", "so_far", "sign", "more"]) (ss := [.raw (.ref a), .dat (cardD c), .dat (.int (t : Nat))]) (by show 3 ≤ 5; decide) (.cons ⟨rfl, rfl⟩ (.cons ⟨rfl, _, rfl, hv1⟩ (.cons ⟨rfl, _, rfl, im_int _⟩ .nil)))).less rm_le
  have hu := hr.units
  obtain ⟨dx, g, e0, ig⟩ := CA.mono (rm_le (l := kd))
  have CAH := fun {H' : Hp} (z : Same H H') => (⟨dx, g, z _ _ e0, ig.mono (Tk.of z)⟩ : CtrAt C H' a kd h goal n)
  refine rss_ifP (fun σ' H' => σ' = L2.start ["self", "one", "so_far", "sign", "more"] [V.ref a, v1, V.int t] ∧ Same H H' ∧ t ≠ n) (et_eqI hu (vd 2) (EX.ed (d := .int (n : Nat)) (ex_fld (vx 0) e0 CT.cls CT.nS rfl) (im_int _))) (fun H1 s1 hk => ?_) (fun H1 s1 hk => rss_nil ⟨rfl, s1, fun z => by have := of_decide_eq_false hk; omega⟩) fun σ' H1 p => ?_
  · have et : t = n := by have := of_decide_eq_true hk; omega
    have G1 := G.mono s1
    refine rss_ret (ed_intB (by rfl) T.int (ed_eq hu (vd 1) (EX.ed (d := cardD goal) (ex_fld (vx 0) (s1 _ _ e0) CT.cls CT.nG rfl) (ig.mono (Tk.of s1))) ((plain_card c).shaped (by decide)) ((plain_card goal).shaped (by decide)))) fun v H2 s2 rv => ?_
    have ev : v = .int (waysM goal h (n - t) c) := by
      rw [et, Nat.sub_self]
      exact Im.ofInt rv
    rw [ev]
    have s12 := s1.trans s2
    exact q H2 xs (rm_le.trans s12) (M.mono s12) (by omega)
  · obtain ⟨rfl, s1, hne⟩ := p
    obtain ⟨j, hj⟩ : ∃ j, n - t = j + 1 := ⟨n - t - 1, by omega⟩
    obtain ⟨r', rfl⟩ : ∃ r', r = r' + 1 := ⟨r - 1, by omega⟩
    have K2 := Kp r' rfl
    have G1 := G.mono s1
    have M1 := M.mono s1
    have Qx : ∀ {H' : Hp} {xs' : Ent} {v : V}, Same (rm H1 kd) H' → MemoAt m.P m.w goal h n kd H' xs' → xs'.length ≤ xs.length + cnt (n - t) → Im H' (.int (waysM goal h (n - t) c)) v → Q v H' := fun {H' xs' v} z1 z2 z3 z4 => by
      rw [z4.ofInt]
      exact q H' xs' ((same_rm s1).trans z1) z2 z3
    refine rss_ifP (fun σ' H' => σ' = L2.start ["self", "one", "so_far", "sign", "more"] [V.ref a, v1, V.int t] ∧ ∃ xs' ad tok, Same (rm H1 kd) H' ∧ MemoAt m.P m.w goal h n kd H' xs' ∧ xs'.length ≤ xs.length + cnt (n - t) ∧ atKey xs' (nk (keyD c t)) = some (ad, .int (waysM goal h (n - t) c) tok))
      (et_notInN (ds := [cardD c, .int (t : Nat)]) hu (ed_tup (ea_d (vd 1) (ea_d (vd 2) ea_0))) (ex_fld (vx 0) (s1 _ _ e0) CT.cls CT.nK rfl) M1.at_ M1.keys (keyD_depth c t)) (fun H2 s2 hk => ?_) (fun H2 s2 hk => rss_nil ?_) fun σ' H2 p => ?_
    · have hno : atKey xs (nk (keyD c t)) = none := by
        cases z : atKey xs (nk (keyD c t)) with
        | none => rfl
        | some p => rw [show nk (.tuple [cardD c, .int (t : Nat)]) = nk (keyD c t) from rfl, z] at hk; cases hk
      have G2 := G1.mono s2
      have M2 := M1.mono s2
      have s12 := s1.trans s2
      have e0' := s2 _ _ (s1 _ _ e0)
      refine rss_setNk (kd := kd) hu ?_
      refine RE.of (pe_callB (cr_sum rfl) (by rfl) T.sum boot_sum (pa_cons re_pe pa_nil (by rfl)) (by decide) (by decide) (by rfl) (by rfl)) ?_
      refine re_lc (own := [("sign", 3), ("more", 4)]) (lc_pairs (ds := (nxM goal c h).map nxD) 3 4 (ev_meth (C := C) K1 CT.cls (vx 0) e0' rfl (as_d (vd 1) as_0) (fun H' z => ⟨a, kd, h, n, goal, c, rfl, CAH (s12.trans z), h6, SG, S, rfl⟩) (fun H1 H2 H3 v s ⟨l, vs, e1, e2, e3, q⟩ => ⟨l, vs, by cases e1; rfl, s.free e2, e3, q⟩) (hr.mono (by omega)) (by rfl) (by rfl) (by rfl))
        (blkOk_by (N := ["self", "one", "so_far", "sign", "more"]) (sc := defScope sWays) (by decide +kernel)) ?_) nd rfl
      intro H3 l vs s3 hl3 him D hD
      have hlen : (nxM goal c h).length ≤ 6 := Nat.le_trans (nxM_len goal c h) h6
      have M3 := M2.mono s3
      have hDk : D ≠ kd := fun z => by rw [z, M3.at_] at hD; cases hD
      have hlk : l ≠ kd := fun z => by rw [z, M3.at_] at hl3; cases hl3
      have hlD : l ≠ D := fun z => by rw [z, hD] at hl3; cases hl3
      refine ⟨fun i H' => ∃ xs' : Ent, Same (rm H3 kd) H' ∧ MemoAt m.P m.w goal h n kd H' xs' ∧ xs'.length ≤ xs.length + i * cnt j ∧ H' D = some (.lst ((((nxM goal c h).take i).map fun p => waysM goal h j p.2).map V.int)), ?_, ?_, ?_, ?_⟩
      · have z := Same.new (o := .lst []) hD
        exact ⟨xs, rm_le.trans z, M3.mono z, by omega, upd_same⟩
      · rintro i H' ⟨xs', z1, _, _, _⟩
        exact ⟨z1 _ _ (by rw [rm_ne hlk]; exact hl3), tk_rm M3.at_ z1⟩
      · intro i H' d hi hd ⟨xs', z1, M', l', hD'⟩
        rw [List.length_map] at hi
        have ep : (nxM goal c h)[i]? = some (nxM goal c h)[i] := List.getElem?_eq_getElem hi
        generalize hpp : (nxM goal c h)[i] = pp at ep
        have ed : d = nxD pp := by
          rw [List.getElem?_map, ep] at hd
          exact (Option.some.inj hd).symm
        obtain ⟨d0, hd0, epp⟩ := nxM_mem (List.mem_of_getElem? ep)
        refine ⟨_, cardD pp.2, ed, fun v1 v2 i1 i2 s0 H0 C' cl fp => ?_⟩
        have zH : Same (rm H kd) H' := (same_rm (s12.trans s3)).trans z1
        have G3 := ((((G2.mono s3).tk zH (tk_rm M3.at_ z1)).wiped [3, 4]).setD 3 i1).setD 4 i2
        have hj2 : n - (t + 1) = j := by omega
        have hm : (i + 1) * cnt j ≤ 6 * cnt j := Nat.mul_le_mul_right _ (by omega)
        rw [Nat.succ_mul] at hm
        have hcj : cnt (n - t) = 1 + 6 * cnt j := by rw [hj]; rfl
        refine re_ways (X := Cx.blk _ _ _ _ _ _) (h := h) (n := n) (t := t + 1) (c := pp.2) (goal := goal) (kd := kd) (xs := xs') (r := r') K2 CT.cls (vx 0) (vd 4) (ED.to (ed_add (vd 2) ed_int) (by congr 1)) (CA.mono (same_rm' zH)) h6 SG (by rw [epp]; exact shape_opened S d0) (by omega) (by omega) M' (by rw [hj2]; omega) (fun H4 xs4 z4 M4 l4 => ?_) hr (by omega)
        have hD4 := z4 _ _ (show rm H' kd D = _ by rw [rm_ne hDk]; exact hD')
        have al : ((((nxM goal c h).take i).map fun p => waysM goal h j p.2).map V.int).length = i := by
          rw [List.length_map, List.length_map, List.length_take]
          omega
        refine ⟨_, hD4, by rw [al]; exact smallL _ (by omega), xs4, ?_, ⟨?_, ?_, M4.memo⟩, ?_, ?_⟩
        · exact same_updN ((same_rm' z1).trans z4) (by rw [rm_ne hDk]; exact hD)
        · rw [upd_ne (Ne.symm hDk)]
          exact M4.at_
        · exact M4.keys.mono (Tk.upd fun ys z => by rw [hD4] at z; cases z)
        · rw [hj2] at l4
          rw [Nat.succ_mul]
          omega
        · rw [upd_same, hj2, List.take_add_one, ep, List.map_append, List.map_append]
          rfl
      · intro H' ⟨xs', z1, M', l', hD'⟩
        rw [List.length_map] at l' hD'
        rw [List.take_length] at hD'
        have hcj : cnt (n - t) = 1 + 6 * cnt j := by rw [hj]; rfl
        have hm : (nxM goal c h).length * cnt j ≤ 6 * cnt j := Nat.mul_le_mul_right _ hlen
        have zH : Same (rm H kd) H' := (same_rm (s12.trans s3)).trans z1
        have G3 := (G2.mono s3).tk zH (tk_rm M3.at_ z1)
        obtain ⟨dx2, g2, e2, ig2⟩ := (CA.mono zH)
        have eV : ((nxM goal c h).map fun p => waysM goal h j p.2).sum = waysM goal h (n - t) c := by rw [hj]; rfl
        refine ⟨D, _, rfl, SqL.of hD', waysM goal h (n - t) c, xs', [cardD c, .int (t : Nat)], by rw [eV], ex_fld (vx 0) e2 CT.cls CT.nK rfl, ed_tup (ea_d (vd 1) (ea_d (vd 2) ea_0)), M'.at_, M'.keys, keyD_depth c t, smallL10 (by omega), fun H5 p tok s5 i5 => ?_⟩
        obtain ⟨ad, had⟩ := atKey_any (xs := xs') (k := nk (keyD c t)) (a := p) (v := Value.int (waysM goal h (n - t) c) tok)
        have e5 := s5 _ _ M'.at_
        have tk5 : Tk H' (upd H5 kd (nkO m.P m.w kd (storedH xs' (nk (keyD c t)) p (Value.int (waysM goal h (n - t) c) tok)))) := (Tk.of s5).trans (Tk.upd fun ys z => by rw [e5] at z; cases z)
        have tk6 : Tk H5 (upd H5 kd (nkO m.P m.w kd (storedH xs' (nk (keyD c t)) p (Value.int (waysM goal h (n - t) c) tok)))) := Tk.upd fun ys z => by rw [e5] at z; cases z
        have ls : (storedH xs' (nk (keyD c t)) p (Value.int (waysM goal h (n - t) c) tok)).length ≤ xs'.length + 1 := storedH_len
        refine rss_nil ⟨rfl, _, ad, tok, ?_, ⟨upd_same, fun x hx => ?_, fun x hx c' t' ex => ?_⟩, Nat.le_trans ls (by omega), had⟩
        · exact ((same_rm ((s2.trans s3))).trans (same_rm' (z1.trans s5))).trans rm_upd
        · rcases mem_storedH hx with q1 | ⟨q1, q2, q3⟩
          · obtain ⟨d, w1, w2, w3⟩ := M'.keys x q1
            exact ⟨d, w1, w2.mono tk5, w3⟩
          · rcases q3 with q3 | ⟨y, q3, q4, q5⟩
            · exact ⟨keyD c t, q1, by rw [q3]; exact i5.mono tk6, keyD_depth c t⟩
            · obtain ⟨d, w1, w2, w3⟩ := M'.keys y q3
              exact ⟨d, by rw [q1, ← q4, w1], by rw [← q5]; exact w2.mono tk5, w3⟩
        · rcases mem_storedH hx with q1 | ⟨q1, q2, q3⟩
          · exact M'.memo x q1 c' t' ex
          · obtain ⟨ec, et⟩ := keyD_inj (q1.symm.trans ex)
            rw [← ec, ← et]
            exact ⟨tok, q2⟩
    · have hk : (atKey xs (nk (keyD c t))).isSome = true := by
        cases z : (atKey xs (nk (keyD c t))).isSome with
        | true => rfl
        | false => rw [show nk (.tuple [cardD c, .int (t : Nat)]) = nk (keyD c t) from rfl, z] at hk; cases hk
      obtain ⟨⟨ad, val⟩, hat⟩ := Option.isSome_iff_exists.mp hk
      have hmem : (nk (keyD c t), ad, val) ∈ xs := by
        unfold atKey at hat
        obtain ⟨x, hx, ex⟩ := Option.map_eq_some_iff.mp hat
        have h3 := List.find?_some hx
        have h4 := List.mem_of_find?_eq_some hx
        have h5 : x.1 = nk (keyD c t) := of_decide_eq_true h3
        rw [← h5, ← ex]
        exact h4
      obtain ⟨tok, ev⟩ := M.memo _ hmem c t rfl
      have ev : val = .int (waysM goal h (n - t) c) tok := ev
      subst ev
      exact ⟨rfl, xs, ad, tok, rm_le.trans s2, M1.mono s2, by omega, hat⟩
    · obtain ⟨rfl, xs', ad, tok, s2, M2, l2, hat⟩ := p
      have G2 := G1.tk ((same_rm s1).trans s2) (tk_rm M1.at_ s2)
      obtain ⟨dx2, g2, e2, ig2⟩ := (CA.mono ((same_rm s1).trans s2))
      refine rss_ret (ed_ixNk (ds := [cardD c, .int (t : Nat)]) hu (ex_fld (vx 0) e2 CT.cls CT.nK rfl) (ed_tup (ea_d (vd 1) (ea_d (vd 2) ea_0))) M2.at_ M2.keys (keyD_depth c t) hat) fun v H3 s3 rv => ?_
      exact Qx (s2.trans s3) (M2.mono s3) l2 rv
theorem kn_ways {m : Md} {C : Addr} (T : Tx m) (CT : Ctr m C) (K1 : KNexts m C) : ∀ r : Nat, KWays m C r
  | 0 => kn_ways_at T CT K1 0 fun r' e => absurd e (by omega)
  | r + 1 => kn_ways_at T CT K1 (r + 1) fun r' e => by
    have : r' = r := by omega
    rw [this]
    exact kn_ways T CT K1 r
end Dw
/-! Dw: Counter.__init__, rank; how_many, number_of -/
namespace Dw
open PySem PySem.Spec PyProof.Rows L2
theorem Good.here {B H : Hp} {σ : L2.St} {Γ : List Sl} (G : Good B H σ Γ) (h : Γ.all (fun sl => !sl.own) = true := by rfl) : Good H H σ Γ := by
  have hn : ∀ (i : Nat) (sl : Sl), Γ[i]? = some sl → sl.own = false := fun i sl e => by
    have q := List.all_eq_true.mp h sl (List.mem_of_getElem? e)
    simpa using q
  refine ⟨Same.refl H, G.len, fun i sl o e1 e2 => ?_, G.apart⟩
  have q := G.at_ i sl o e1 e2
  have n := hn i sl e1
  cases sl with
  | un => trivial
  | dat d => exact q
  | lst ds => cases n
  | rls ds => obtain ⟨l, vs, e, q1, q2⟩ := q; exact ⟨l, vs, e, G.same _ _ q1, q2.mono (Tk.of G.same)⟩
  | dic kvs => cases n
  | raw v => exact q
section
variable {X : Cx} {B B0 H : Hp} {σ : L2.St} {Γ : List Sl} {a b c e o value iter : Expr} {pos pos' p p1 p2 p3 tpos apos : Pos} {ds : List PyData} {x y z f : Str} {rest body orelse : List Stmt} {D : Ends} {Q : VK} {R : VR} {s C dx : Addr} {fs : List (Str × V)} {i : Int}
/-- o.f = value -/
theorem rss_fld (hv : EV X value σ H R) (ho : EX X o σ H (.ref s)) (hi : H s = some (.ins C dx fs)) (hc : Cls X.K C) (n : NoAttr X.K C f) (hl : fs.length < 1000) (k : ∀ y H1 H2, Same H H1 → R H H1 y → Same H1 H2 → RSs X rest D σ (upd H2 s (.ins C dx (putF f y fs))))
    (hs : swapsWith value (some (.Attribute o f pos')) pos.line X.env = pure false := by rfl) : RSs X (.Assign [.Attribute o f pos'] value pos :: rest) D σ H :=
  rss_cons (RS.of (ps_fld re_pe re_pe hs) (hv H (Same.refl _) _ fun y H1 s1 r => ho H1 s1 _ fun x H2 s2 hx => ⟨s, C, dx, fs, hx, (s1.trans s2) _ _ hi, hc, n, hl, k y H1 H2 s1 r s2⟩))
theorem ev_nkNew : EV X (.Dict [] [] pos) σ H (fun H1 H2 v => ∃ kd, v = .ref kd ∧ H1 kd = none ∧ H2 kd = some (nkO X.prog X.w kd [])) := ev_pe pe_nkNew fun H1 s1 Q q kd hp => q _ _ (Same.new hp) ⟨kd, rfl, hp, upd_same⟩
/-- name += e, e changes the heap -/
theorem rss_augE {op : Operator} {g : Int → Int → Int} (n : Nat) (ho : PIp X op (fun x y H Q => ∃ i j, x = .int i ∧ y = .int j ∧ Q (.int (g i j)) H)) (hΓ : Γ[n]? = some (.dat (.int i))) (he : RE X e σ H (fun v H1 => ∃ j, v = .int j ∧ RSs X rest D (σ.set n (some (.int (g i j)))) H1))
    (G : Good B H σ Γ := by assumption) (nd : X.N.Nodup := by assumption) (hi : X.N[n]? = some x := by rfl) (hx : Loc X.env.scope x := by first | exact Or.inl rfl | exact Or.inr rfl) (hf : X.fn x = true ∨ X.env.scope.names.lookup x = some .local := by first | exact .inl rfl | exact .inr rfl) :
    RSs X (.AugAssign (.Name x p) op e pos :: rest) D σ H :=
  rss_cons (RS.of (ps_aug nd hi hx re_pe ho hf) (by
    obtain ⟨v, e1, q1⟩ := G.dat hΓ
    exact ⟨v, e1, he.imp fun u H1 ⟨j, e2, q⟩ => ⟨i, j, q1.ofInt, e2, q⟩⟩))
/-- for i, c in enumerate(a text), under what holds -/
theorem rss_enumSP {px py : Pos} {kt : Nat} (t u : Nat) (ha : ED X a σ H (.str z)) (P : Nat → L2.St → Hp → Prop) (h0 : ∀ H1, Same H H1 → P 0 σ H1)
    (st : ∀ i σ H H2, i < z.cps.size → P i σ H → Same H H2 → RSs X body { D with nx := P (i + 1), ct := P (i + 1), bk := fun σ H => RSs X rest D σ H } ((σ.set t (some (.int (i : Nat)))).set u (some (.str ⟨#[z.cps[i]?.getD 0]⟩))) H2)
    (hd : ∀ σ H, P z.cps.size σ H → RSs X rest D σ H) (hg : Gl X "enumerate") (hm : X.mg "enumerate" = none)
    (nd : X.N.Nodup := by assumption) (hc : X.calm = true := by rfl) (hi : X.N[t]? = some x := by rfl) (hx : Loc X.env.scope x := by first | exact Or.inl rfl | exact Or.inr rfl) (hf : X.fn x = true ∨ X.env.scope.names.lookup x = some .local := by first | exact .inl rfl | exact .inr rfl)
    (hj : X.N[u]? = some y := by rfl) (hy : Loc X.env.scope y := by first | exact Or.inl rfl | exact Or.inr rfl) (hf2 : X.fn y = true ∨ X.env.scope.names.lookup y = some .local := by first | exact .inl rfl | exact .inr rfl)
    (h1 : (assignEach [.Name x px, .Name y py] X.env).length = 2 := by rfl) (h2 : (assignEach [.Name x px, .Name y py] X.env).findIdx? (·.1) = none := by rfl)
    (h3 : (assignEach [.Name x px, .Name y py] X.env).map (·.2) = assign (.Name x px) X.env :: (assignEach [.Name y py] X.env).map (·.2) := by rfl) (h4 : (assignEach [.Name y py] X.env).map (·.2) = assign (.Name y py) X.env :: (assignEach [] X.env).map (·.2) := by rfl)
    (hp : PassesOwn (model X.prog X.w) X.A X.env X.xe := by exact PassesOwn.never) (hst : starEach [a] X.env = [(false, eval a X.env)] := by rfl) (hs : ∀ x, foldedSetIterable (.Call (.Name "enumerate" p1) [a] [] p2) X.env x = pure x := by intro _; rfl) :
    RSs X (.For (.Tuple [.Name x px, .Name y py] kt tpos) (.Call (.Name "enumerate" p1) [a] [] p2) body [] pos :: rest) D σ H := by
  refine rss_for (pi_enumS hg hm ra_pa hst) (pg2 t u nd hc hi hx hf hj hy hf2 h1 h2 h3 h4) hp hc ((ea_d ha ea_0 (by rw [hst]; rfl)).1 H (Same.refl _) _ fun vs H1 s1 r => ?_) (fun R R' k h => ra_imp h fun vs H1 ⟨z, e1, r⟩ => ⟨z, e1, k _ _ r⟩) hs
  obtain ⟨v, rfl, hv⟩ := pd1 r
  refine ⟨z, by rw [Im.ofStr hv], z.cps.size, _, _, P, walk_enumS, h0 H1 s1, fun _ _ _ _ _ => trivial, fun i x σ H H' hi' p ⟨T, v, u', e1, e2, e3, e4, e5⟩ => ?_, hd⟩
  subst e1 e3
  have e : z.cps[i]? = some z.cps[i] := Array.getElem?_eq_getElem hi'
  have ev : v = .int (i : Nat) := by
    have := e4
    injection this with this
    exact this.symm
  have eu : u' = .str ⟨#[z.cps[i]?.getD 0]⟩ := by
    have h5 : (z.cps[i]?).map (fun c => V.str ⟨#[c]⟩) = some u' := e5
    rw [e] at h5 ⊢
    injection h5 with h5
    exact h5.symm
  refine ⟨T, [v, u'], rfl, SqT.of upd_same, rfl, v, [u'], rfl, u', [], rfl, rfl, ?_⟩
  rw [ev, eu]
  exact st i σ H _ hi' p (Same.new e2)
/-- for a, b in a new list of pairs, under what holds -/
theorem rss_forPP {px py : Pos} {kt : Nat} (t u : Nat) (ha : EN X iter σ H ds)
    (h : ∀ H1 l vs, Same H H1 → H1 l = some (.lst vs) → ImAll H1 ds vs → ∃ P : Nat → L2.St → Hp → Prop, P 0 σ H1 ∧ (∀ i σ' H', P i σ' H' → H' l = some (.lst vs) ∧ Tk H1 H') ∧
      (∀ i σ' H' d, i < ds.length → ds[i]? = some d → P i σ' H' → ∃ d1 d2, d = .tuple [d1, d2] ∧ ∀ v1 v2, Im H' d1 v1 → Im H' d2 v2 → RSs X body { D with nx := P (i + 1), ct := P (i + 1), bk := fun σ H => RSs X rest D σ H } ((σ'.set t (some v1)).set u (some v2)) H') ∧
      ∀ σ' H', P ds.length σ' H' → RSs X rest D σ' H')
    (nd : X.N.Nodup := by assumption) (hc : X.calm = true := by rfl) (hi : X.N[t]? = some x := by rfl) (hx : Loc X.env.scope x := by first | exact Or.inl rfl | exact Or.inr rfl) (hf : X.fn x = true ∨ X.env.scope.names.lookup x = some .local := by first | exact .inl rfl | exact .inr rfl)
    (hj : X.N[u]? = some y := by rfl) (hy : Loc X.env.scope y := by first | exact Or.inl rfl | exact Or.inr rfl) (hf2 : X.fn y = true ∨ X.env.scope.names.lookup y = some .local := by first | exact .inl rfl | exact .inr rfl)
    (h1 : (assignEach [.Name x px, .Name y py] X.env).length = 2 := by rfl) (h2 : (assignEach [.Name x px, .Name y py] X.env).findIdx? (·.1) = none := by rfl)
    (h3 : (assignEach [.Name x px, .Name y py] X.env).map (·.2) = assign (.Name x px) X.env :: (assignEach [.Name y py] X.env).map (·.2) := by rfl) (h4 : (assignEach [.Name y py] X.env).map (·.2) = assign (.Name y py) X.env :: (assignEach [] X.env).map (·.2) := by rfl)
    (hp : PassesOwn (model X.prog X.w) X.A X.env X.xe := by exact PassesOwn.never) (hs : ∀ x, foldedSetIterable iter X.env x = pure x := by intro _; rfl) :
    RSs X (.For (.Tuple [.Name x px, .Name y py] kt tpos) iter body [] pos :: rest) D σ H := by
  refine rss_for (pi_list re_pe) (pg2 t u nd hc hi hx hf hj hy hf2 h1 h2 h3 h4) hp hc (ha H (Same.refl _) _ fun v H1 s1 ⟨l, vs, e1, n1, g1, g2⟩ => ⟨l, e1, ⟨vs, SqL.of g1⟩, ?_⟩) (fun R R' k h => RE.imp h fun v H1 ⟨a, e1, q, r⟩ => ⟨a, e1, q, k _ _ r⟩) hs
  obtain ⟨P, p0, pG, st, hd⟩ := h H1 l vs s1 g1 g2
  have hl := g2.length
  refine ⟨vs.length, _, _, P, walk_list, p0, fun i σ' H' _ p => SqL.of (pG i σ' H' p).1, fun i x σ' H' H'' hi p ⟨eH, ex⟩ => ?_, fun σ' H' p => hd σ' H' (by rw [← hl]; exact p)⟩
  subst eH
  have hi2 : i < ds.length := by omega
  obtain ⟨d1, d2, ed, k⟩ := st i σ' H'' _ hi2 (List.getElem?_eq_getElem hi2) p
  obtain ⟨v, e2, q2⟩ := g2.get (List.getElem?_eq_getElem hi2)
  rw [ex] at e2
  cases e2
  rw [ed] at q2
  obtain ⟨T, ws, rfl, r1, r2⟩ := q2.ofTup
  obtain ⟨v1, w1, rfl, i1, r3⟩ := r2.uncons
  obtain ⟨v2, w2, rfl, i2, r4⟩ := r3.uncons
  have e4 : w2 = [] := by simpa only [ImAll] using r4
  subst e4
  have tk := (pG i σ' H'' p).2
  exact ⟨T, [v1, v2], rfl, SqT.of (tk _ _ r1), rfl, v1, [v2], rfl, v2, [], rfl, rfl, k v1 v2 (i1.mono tk) (i2.mono tk)⟩
end
/-! ### __init__ -/
def spCInit (P : Program) (w : World) (C : Addr) : Sp := fun vs H Q _ => ∃ (a dx : Addr) (h : Nat) (wd : List Nat), vs = [.ref a, .int (h : Nat), .str (txt wd)] ∧ H a = some (.ins C dx []) ∧ 1 ≤ h ∧ h ≤ 6 ∧ Word h wd ∧ wd.length ≤ 8 ∧
  ∀ H' kd g, Same (rm H a) H' → H' a = some (.ins C dx (ctrFs h g wd.length kd)) → Im H' (cardD (cardM h wd)) g → H' kd = some (nkO P w kd []) → H kd = none → Q .non H'
theorem scCInit : FnScope ["self", "halls", "work"] ["self", "halls", "work"] (defScope sCInit) := ⟨rfl, rfl, rfl, by decide +kernel, rfl, by decide +kernel, by decide +kernel⟩
theorem tk_ins {H H2 : Hp} {a C dx : Addr} {fs : List (Str × V)} {o : HO} (s : Same H H2) (e : H a = some (.ins C dx fs)) : Tk H2 (upd H2 a o) := Tk.upd fun ys z => by rw [s _ _ e] at z; cases z
theorem Good.ins {H0 H H2 : Hp} {σ : L2.St} {Γ : List Sl} {a C dx : Addr} {fs : List (Str × V)} {o : HO} (G : Good (rm H0 a) H σ Γ) (s : Same H H2) (e : H a = some (.ins C dx fs)) (h : Γ.all (fun sl => !sl.own) = true := by rfl) : Good (rm H0 a) (L2.upd H2 a o) σ Γ :=
  G.tk ((same_rm' (G.same.trans s)).trans rm_upd) ((Tk.of s).trans (tk_ins s e)) h
theorem le_putF {n : Nat} {f : Str} {v : V} {fs : List (Str × V)} (h : fs.length ≤ n) : (putF f v fs).length ≤ n + 1 := by
  have := length_putF f v fs
  omega
theorem le0 : ([] : List (Str × V)).length ≤ 0 := Nat.le_refl _
theorem lt1000 {n k : Nat} (h : n ≤ k) (hk : k < 1000 := by decide) : n < 1000 := Nat.lt_of_le_of_lt h hk
theorem kn_cinit {m : Md} {C : Addr} (T : Tx m) (CT : Ctr m C) (K1 : KCardOf m) : ∃ f fd, FnOk m.P m.w m.K m.mg m.base CX0 3 f fd ["self", "halls", "work"] (spCInit m.P m.w C) ∧ Binds m.K fd ["self", "halls", "work"] [] ∧ Mk m.K C f := by
  obtain ⟨f, fd, h1, h2, h3⟩ := CT.init
  refine ⟨f, fd, ?_, h2, h3⟩
  refine h1.ok scCInit (fun vs H Q E ⟨_, _, _, _, e, _⟩ => by rw [e]; rfl) fun cdv A outer s H vs Q E hr hsp => ?_
  obtain ⟨a, dx, h, wd, rfl, ea, h1, h6, W, hw, q⟩ := hsp
  have hr : Room 2 (cxD m ["self", "halls", "work"] "Counter.__init__" sCInit f ⟨cdv, A, outer, s, H, E⟩).A := hr
  have nd : (cxD m ["self", "halls", "work"] "Counter.__init__" sCInit f ⟨cdv, A, outer, s, H, E⟩).N.Nodup := scCInit.nd
  refine ⟨RSs (cxD m ["self", "halls", "work"] "Counter.__init__" sCInit f ⟨cdv, A, outer, s, H, E⟩) (defBody sCInit), rss_pss, ?_⟩
  have G : Good (rm H a) H (L2.start ["self", "halls", "work"] [V.ref a, .int (h : Nat), .str (txt wd)]) [.raw (.ref a), .dat (.int (h : Nat)), .dat (.str (txt wd))] :=
    (start_good (N := ["self", "halls", "work"]) (ss := [.raw (.ref a), .dat (.int (h : Nat)), .dat (.str (txt wd))]) (by show 3 ≤ 3; decide) (.cons ⟨rfl, rfl⟩ (.cons ⟨rfl, _, rfl, im_int _⟩ (.cons ⟨rfl, _, rfl, im_str _⟩ .nil)))).less rm_le
  refine rss_fld (f := "halls") (vd 1) (vx 0) ea CT.cls CT.nH (by decide) fun y1 H1 H2 s1 r1 s2 => ?_
  have G1 := G.ins (o := .ins C dx (putF "halls" y1 [])) (s1.trans s2) ea
  have e1 : y1 = .int (h : Nat) := Im.ofInt r1
  subst e1
  refine rss_fld (f := "goal") (ed_call K1 (as_d (vd 1) (as_d (vd 2) as_0)) ⟨h, wd, rfl, h1, h6, W, hw, rfl⟩) (vx 0) upd_same CT.cls CT.nG (lt1000 (le_putF le0)) fun g H3 H4 s3 r2 s4 => ?_
  have G2 := G1.ins (o := .ins C dx (putF "goal" g (putF "halls" (.int (h : Nat)) []))) (s3.trans s4) upd_same
  have i2 : Im (upd H4 a (.ins C dx (putF "goal" g (putF "halls" (.int (h : Nat)) [])))) (cardD (cardM h wd)) g := Im.mono ((Tk.of s4).trans (tk_ins (s3.trans s4) upd_same)) _ _ r2
  refine rss_fld (f := "size") (lenT (by rfl) T.len (vd 2) (small _ (by omega))) (vx 0) upd_same CT.cls CT.nS (lt1000 (le_putF (le_putF le0))) fun y3 H5 H6 s5 r3 s6 => ?_
  have G3 := G2.ins (o := .ins C dx (putF "size" y3 (putF "goal" g (putF "halls" (.int (h : Nat)) [])))) (s5.trans s6) upd_same
  have i3 := Im.mono ((Tk.of (s5.trans s6)).trans (tk_ins (o := .ins C dx (putF "size" y3 (putF "goal" g (putF "halls" (.int (h : Nat)) [])))) (s5.trans s6) upd_same)) _ _ i2
  have e3 : y3 = .int (wd.length : Nat) := Im.ofInt r3
  subst e3
  refine rss_fld (f := "known") ev_nkNew (vx 0) upd_same CT.cls CT.nK (lt1000 (le_putF (le_putF (le_putF le0)))) fun y4 H7 H8 s7 ⟨kd, e4, f4, k4⟩ s8 => ?_
  subst e4
  have G4 := G3.ins (o := .ins C dx (putF "known" (.ref kd) (putF "size" (.int (wd.length : Nat)) (putF "goal" g (putF "halls" (.int (h : Nat)) []))))) (s7.trans s8) upd_same
  have i4 := Im.mono ((Tk.of (s7.trans s8)).trans (tk_ins (o := .ins C dx (putF "known" (.ref kd) (putF "size" (.int (wd.length : Nat)) (putF "goal" g (putF "halls" (.int (h : Nat)) []))))) (s7.trans s8) upd_same)) _ _ i3
  have hne : kd ≠ a := fun z => by rw [z, upd_same] at f4; cases f4
  refine rss_nil (q _ kd g G4.same ?_ i4 ?_ (by have := G3.same.free f4; rw [rm_ne hne] at this; exact this))
  · rw [upd_same]
    rfl
  · rw [upd_ne hne]
    exact s8 _ _ k4
/-! ### rank -/
def rankIn (goal : Card) (h r d : Nat) : List (Nat × Card) → Card × Int → Card × Int
  | [], s => s
  | p :: ps, s => if p.1 = d then (p.2, s.2) else rankIn goal h r d ps (s.1, s.2 + waysM goal h r p.2)
def rankM (goal : Card) (h n : Nat) (w : List Nat) : Nat → Card × Int
  | 0 => (nothingM h, 0)
  | k + 1 => rankIn goal h (n - (k + 1)) (w.getD k 0) (nxM goal (rankM goal h n w k).1 h) (rankM goal h n w k)
theorem shape_rankIn {goal : Card} {h r d : Nat} : ∀ (ps : List (Nat × Card)) (s : Card × Int), (∀ p ∈ ps, Shape h p.2) → Shape h s.1 → Shape h (rankIn goal h r d ps s).1
  | [], s, _, S => S
  | p :: ps, s, hp, S => by
    unfold rankIn
    split
    · exact hp p List.mem_cons_self
    · exact shape_rankIn ps _ (fun q hq => hp q (List.mem_cons_of_mem _ hq)) S
theorem nxM_shape {goal c : Card} {h : Nat} (S : Shape h c) {p : Nat × Card} {k : Nat} (hp : p ∈ nxM goal c k) : Shape h p.2 := by
  obtain ⟨d, _, rfl⟩ := nxM_mem hp
  exact shape_opened S d
theorem shape_rank {goal : Card} {h n : Nat} {w : List Nat} : ∀ k, Shape h (rankM goal h n w k).1
  | 0 => shape_nothing h
  | k + 1 => shape_rankIn _ _ (fun p hp => nxM_shape (shape_rank k) hp) (shape_rank k)
theorem cnt_le : ∀ j : Nat, j ≤ 5 → cnt j ≤ 1555 := by
  intro j h
  have : j = 0 ∨ j = 1 ∨ j = 2 ∨ j = 3 ∨ j = 4 ∨ j = 5 := by omega
  rcases this with rfl | rfl | rfl | rfl | rfl | rfl <;> decide
def spRank (P : Program) (w : World) (C : Addr) : Sp := fun vs H Q _ => ∃ (a kd : Addr) (h : Nat) (goal : Card) (wd : List Nat) (xs : Ent), vs = [.ref a, .str (txt wd)] ∧ CtrAt C (rm H kd) a kd h goal wd.length ∧ 1 ≤ h ∧ h ≤ 6 ∧ Word h wd ∧ wd.length ≤ 6 ∧ Shape h goal ∧
  MemoAt P w goal h wd.length kd H xs ∧ xs.length = 0 ∧ ∀ H', Same (rm H kd) H' → Q (.int (rankM goal h wd.length wd wd.length).2) H'
theorem scRank : FnScope ["self", "work", "one", "found", "place", "mine", "sign", "more"] ["self", "work"] (defScope sRank) := ⟨rfl, rfl, rfl, by decide +kernel, rfl, by decide +kernel, by decide +kernel⟩
abbrev KRank (m : Md) (C : Addr) := KmG m C "rank" ["self", "work"] 12 (spRank m.P m.w C)
theorem kn_rank {m : Md} {C : Addr} (T : Tx m) (CT : Ctr m C) (K1 : KNothing m) (K2 : KNexts m C) (K3 : KWays m C 6) : KRank m C := by
  obtain ⟨f, fd, h1, h2, h3⟩ := CT.rank.ex
  refine ⟨f, fd, ?_, h2, h3⟩
  refine h1.ok scRank (fun vs H Q E ⟨_, _, _, _, _, _, e, _⟩ => by rw [e]; rfl) fun cdv A outer s H vs Q E hr hsp => ?_
  obtain ⟨a, kd, h, goal, wd, xs, rfl, CA, h1, h6, W, hw, SG, M, hx0, q⟩ := hsp
  have hr : Room 11 (cxD m ["self", "work", "one", "found", "place", "mine", "sign", "more"] "Counter.rank" sRank f ⟨cdv, A, outer, s, H, E⟩).A := hr
  have nd : (cxD m ["self", "work", "one", "found", "place", "mine", "sign", "more"] "Counter.rank" sRank f ⟨cdv, A, outer, s, H, E⟩).N.Nodup := scRank.nd
  refine ⟨RSs (cxD m ["self", "work", "one", "found", "place", "mine", "sign", "more"] "Counter.rank" sRank f ⟨cdv, A, outer, s, H, E⟩) (defBody sRank), rss_pss, ?_⟩
  have G : Good H H (L2.start ["self", "work", "one", "found", "place", "mine", "sign", "more"] [V.ref a, .str (txt wd)]) [.raw (.ref a), .dat (.str (txt wd)), .un, .un, .un, .un, .un, .un] :=
    (start_good (N := ["self", "work", "one", "found", "place", "mine", "sign", "more"]) (ss := [.raw (.ref a), .dat (.str (txt wd))]) (by show 2 ≤ 8; decide) (.cons ⟨rfl, rfl⟩ (.cons ⟨rfl, _, rfl, im_str _⟩ .nil)))
  have hu := hr.units
  obtain ⟨dx, g, e0, ig⟩ := CA.mono (rm_le (l := kd))
  have CAH := fun {H' : Hp} (z : Same (rm H kd) H') => CA.mono z
  refine rss_par 2 3 (pD (ed_call K1 (as_d (EX.ed (d := .int (h : Nat)) (ex_fld (vx 0) e0 CT.cls CT.nH rfl) (im_int _)) as_0) ⟨h, rfl, h6, rfl⟩)) (pD ed_int) fun σ1 H1 G1 => ?_
  have s1 : Same H H1 := G1.same
  have G1 := G1.less (rm_le (l := kd))
  have M1 := M.mono s1
  refine rss_enumSP 4 5 (vd 1) (fun i σ' H' => Good (rm H kd) H' σ' [.raw (.ref a), .dat (.str (txt wd)), .dat (cardD (rankM goal h wd.length wd i).1), .dat (.int (rankM goal h wd.length wd i).2), .un, .un, .un, .un] ∧ ∃ xs', MemoAt m.P m.w goal h wd.length kd H' xs' ∧ xs'.length ≤ i * 9330) (fun H2 s2 => ⟨(G1.mono s2).wk, xs, M1.mono s2, by omega⟩) ?_ ?_ (by rfl) T.enum
  · intro i σ' H' H2 hi ⟨G', xs', M', l'⟩ s2
    rw [txt_size] at hi
    rw [txt_at hi]
    have G2 := ((G'.mono s2).setD 4 (im_int (i : Nat))).setD 5 (im_str (⟨#[wd.getD i 0 + 49]⟩ : Str))
    have M2 := M'.mono s2
    have sr : ∀ k, Shape h (rankM goal h wd.length wd k).1 := shape_rank
    have e1 : rankM goal h wd.length wd (i + 1) = rankIn goal h (wd.length - (i + 1)) (wd.getD i 0) (nxM goal (rankM goal h wd.length wd i).1 h) (rankM goal h wd.length wd i) := rfl
    have So := sr i
    generalize hS1 : rankM goal h wd.length wd i = S1 at G2 e1 So
    obtain ⟨one, f0⟩ := S1
    simp only at G2 e1 So
    obtain ⟨dx2, g2, e2, ig2⟩ := CA.mono G2.same
    refine rss_forPP (ds := (nxM goal one h).map nxD) 6 7 (ev_meth (C := C) (R := rN ((nxM goal one h).map nxD)) K2 CT.cls (vx 0) e2 rfl (as_d (vd 2) as_0) (fun H' z => ⟨a, kd, h, wd.length, goal, one, rfl, CA.mono (G2.same.trans z), h6, SG, So, rfl⟩) (fun H1 H2 H3 v s ⟨l, vs, e1, e2, e3, q⟩ => ⟨l, vs, by cases e1; rfl, s.free e2, e3, q⟩) (hr.mono (by decide)) (by rfl) (by rfl) (by rfl)) ?_
    intro H3 l vs s3 hl3 him
    have M3 := M2.mono s3
    have hlk : l ≠ kd := fun z => by rw [z, M3.at_] at hl3; cases hl3
    have hlen : (nxM goal one h).length ≤ 6 := Nat.le_trans (nxM_len goal one h) h6
    refine ⟨fun j σ' H' => Same (rm H3 kd) H' ∧ ∃ (fnd : Int) (xs2 : Ent), Good (rm H kd) H' σ' [.raw (.ref a), .dat (.str (txt wd)), .dat (cardD one), .dat (.int fnd), .dat (.int (i : Nat)), .dat (.str ⟨#[wd.getD i 0 + 49]⟩), .un, .un] ∧ MemoAt m.P m.w goal h wd.length kd H' xs2 ∧ xs2.length ≤ i * 9330 + j * 1555 ∧
      rankIn goal h (wd.length - (i + 1)) (wd.getD i 0) ((nxM goal one h).drop j) (one, fnd) = rankM goal h wd.length wd (i + 1), ?_, ?_, ?_, ?_⟩
    · exact ⟨rm_le, f0, xs', G2.mono s3, M3, by omega, e1.symm⟩
    · intro j σ' H' ⟨z1, _⟩
      exact ⟨z1 _ _ (by rw [rm_ne hlk]; exact hl3), tk_rm M3.at_ z1⟩
    · intro j σ' H4 d hj hd ⟨z1, fnd, xs2, G4, M4, l4, er⟩
      rw [List.length_map] at hj
      have ep : (nxM goal one h)[j]? = some (nxM goal one h)[j] := List.getElem?_eq_getElem hj
      have edr : (nxM goal one h).drop j = (nxM goal one h)[j] :: (nxM goal one h).drop (j + 1) := List.drop_eq_getElem_cons hj
      generalize hpp : (nxM goal one h)[j] = pp at ep edr
      have ed : d = nxD pp := by
        rw [List.getElem?_map, ep] at hd
        exact (Option.some.inj hd).symm
      have Sp := nxM_shape So (List.mem_of_getElem? ep)
      rw [edr] at er
      refine ⟨_, cardD pp.2, ed, fun v1 v2 i1 i2 => ?_⟩
      have G5 := (G4.setD 6 i1).setD 7 i2
      have iff : (⟨#[pp.1 + 49]⟩ : Str) = ⟨#[wd.getD i 0 + 49]⟩ ↔ pp.1 = wd.getD i 0 := ⟨fun z => by
        injection z with z
        injection z with z
        injection z with z
        omega, fun z => by rw [z]⟩
      refine rss_ifP (fun σ2 H2 => σ2 = (σ'.set 6 (some v1)).set 7 (some v2) ∧ Same H4 H2 ∧ pp.1 ≠ wd.getD i 0) (et_eqS (vd 6) (vd 5)) (fun H5 s5 hk => ?_) (fun H5 s5 hk => rss_nil ⟨rfl, s5, fun z => of_decide_eq_false hk (iff.mpr z)⟩) fun σ5 H5 p => ?_
      · have hpd : pp.1 = wd.getD i 0 := iff.mp (of_decide_eq_true hk)
        rw [rankIn, if_pos hpd] at er
        refine rss_set 2 (vd 7 (G := (G5.mono s5).here)) (fun σ6 H6 G6 => rss_break (rss_nil ⟨?_, xs2, (M4.mono s5).mono G6.same, by rw [Nat.succ_mul]; omega⟩)) ((G5.mono s5).here)
        rw [← er]
        exact (G6.less (G5.mono s5).same).wk
      · obtain ⟨rfl, s5, hne⟩ := p
        rw [rankIn, if_neg hne] at er
        have G6 := G5.mono s5
        have M6 := M4.mono s5
        have hcj : cnt (wd.length - (i + 1)) ≤ 1555 := cnt_le _ (by omega)
        refine rss_augE (i := fnd) 3 (pip_of iop_add) rfl (re_ways (h := h) (n := wd.length) (t := i + 1) (c := pp.2) (goal := goal) (kd := kd) (xs := xs2) (r := 6) K3 CT.cls (vx 0) (vd 7) (ED.to (ed_add (vd 4) ed_int) (by congr 1)) (CA.mono (same_rm' G6.same)) h6 SG Sp (by omega) (by omega) M6 (by omega) (fun H7 xs7 z7 M7 l7 => ⟨_, rfl, rss_nil ⟨?_, fnd + waysM goal h (wd.length - (i + 1)) pp.2, xs7, ?_, M7, by rw [Nat.succ_mul]; omega, er⟩⟩) hr (by decide))
        · exact (z1.trans s5 |> same_rm').trans z7
        · exact ((G6.tk ((same_rm' G6.same).trans z7) (tk_rm M6.at_ z7)).setD 3 (im_int _)).wk
    · intro σ' H' ⟨z1, fnd, xs2, G4, M4, l4, er⟩
      rw [List.length_map] at er l4
      rw [List.drop_length, rankIn] at er
      refine rss_nil ⟨?_, xs2, M4, ?_⟩
      · rw [← er]
        exact G4.wk
      · have : (nxM goal one h).length * 1555 ≤ 6 * 1555 := Nat.mul_le_mul_right _ hlen
        rw [Nat.succ_mul]
        omega
  · intro σ' H' ⟨G', xs', M', l'⟩
    refine rss_ret (vd 3) fun v H2 s2 r => ?_
    rw [txt_size] at r
    rw [Im.ofInt r]
    exact q H2 (G'.same.trans s2)
end Dw
/-! Dw: how_many, number_of -/
namespace Dw
open PySem PySem.Spec PyProof.Rows L2
abbrev sHowMany : Stmt := topS 57
abbrev sNumberOf : Stmt := topS 58
theorem tk_toRm {P : Program} {w : World} {kd : Addr} {H : Hp} {xs : Ent} (e : H kd = some (nkO P w kd xs)) : Tk H (rm H kd) := fun a ys h => by
  rw [rm_ne (fun z => by rw [z, e] at h; cases h)]
  exact h
section
variable {X : Cx} {H : Hp} {σ : L2.St} {e1 e2 o : Expr} {pos apos p : Pos} {C : Addr} {r k : Nat} {Q : VK} {pl : Sem Bool}
theorem re_ways0 (K : KWays (mdOf X) C r) (hc : Cls X.K C) (ho : RE X o σ H fun x H1 => ∃ (a kd : Addr) (h n t : Nat) (goal c : Card) (xs : Ent), x = .ref a ∧ ED X e1 σ H1 (cardD c) ∧ ED X e2 σ H1 (.int (t : Nat)) ∧ CtrAt C (rm H1 kd) a kd h goal n ∧ h ≤ 6 ∧ Shape h goal ∧ Shape h c ∧ t ≤ n ∧ n - t ≤ r ∧
      MemoAt X.prog X.w goal h n kd H1 xs ∧ xs.length + cnt (n - t) ≤ 1000000 ∧ ∀ H', Same (rm H1 kd) H' → Q (.int (waysM goal h (n - t) c)) H')
    (hr : Room k X.A) (hk : 3 + r ≤ k) (hst : starEach [e1, e2] X.env = (false, eval e1 X.env) :: starEach [e2] X.env := by rfl) (hst2 : starEach [e2] X.env = (false, eval e2 X.env) :: starEach [] X.env := by rfl) (hpl : (backTo pos (starEach [e2] X.env)).any (·.1) = false := by rfl)
    (htr : eval (.Call (.Attribute o "ways" apos) [e1, e2] [] pos) X.env = (do
      let ov ← eval o X.env
      standAt apos.atName
      let (f, first) ← holding [ov] (getMethod ov "ways" pl)
      callWith pos f first (backTo pos (starEach [e1, e2] X.env)) (backToKw pos (keywordEach [] X.env))) := by rfl) : RE X (.Call (.Attribute o "ways" apos) [e1, e2] [] pos) σ H Q := by
  obtain ⟨f, fd, g1, g2, g3⟩ := K.ex
  refine RE.of (pe_meth (CX := CX0) (E := E0) re_pe hc g3 g1 (hr.mono hk) g2 .nil pass0 ra_pa hst hpl htr) (ho.imp fun x H1 ⟨a, kd, h, n, t, goal, c, xs, hx, h1, h2, CA, h6, SG, S, ht, hn, M, hl, q⟩ => ?_)
  obtain ⟨dx, g, ea, ig⟩ := CA.mono (rm_le (l := kd))
  refine ⟨a, dx, _, hx, ea, rfl, (ea_d h1 (ea_d h2 ea_0 hst2) hst).1 H1 (Same.refl _) _ fun vs H2 s2 kk => ?_⟩
  obtain ⟨v, u, rfl, hv, hu⟩ := pd2 kk
  rw [List.append_nil, hx, show u = .int t from Im.ofInt hu]
  exact ⟨a, kd, h, n, t, goal, c, v, xs, rfl, hv, CA.mono (same_rm s2), h6, SG, S, ht, hn, M.mono s2, hl, fun H' xs' s M' l => q H' ((same_rm s2).trans s)⟩
theorem re_rank0 (K : KRank (mdOf X) C) (hc : Cls X.K C) (ho : RE X o σ H fun x H1 => ∃ (a kd : Addr) (h : Nat) (goal : Card) (wd : List Nat) (xs : Ent), x = .ref a ∧ ED X e1 σ H1 (.str (txt wd)) ∧ CtrAt C (rm H1 kd) a kd h goal wd.length ∧ 1 ≤ h ∧ h ≤ 6 ∧ Word h wd ∧ wd.length ≤ 6 ∧ Shape h goal ∧
      MemoAt X.prog X.w goal h wd.length kd H1 xs ∧ xs.length = 0 ∧ ∀ H', Same (rm H1 kd) H' → Q (.int (rankM goal h wd.length wd wd.length).2) H')
    (hr : Room k X.A) (hk : 12 ≤ k) (hst : starEach [e1] X.env = (false, eval e1 X.env) :: starEach [] X.env := by rfl) (hpl : (backTo pos (starEach [] X.env)).any (·.1) = false := by rfl)
    (htr : eval (.Call (.Attribute o "rank" apos) [e1] [] pos) X.env = (do
      let ov ← eval o X.env
      standAt apos.atName
      let (f, first) ← holding [ov] (getMethod ov "rank" pl)
      callWith pos f first (backTo pos (starEach [e1] X.env)) (backToKw pos (keywordEach [] X.env))) := by rfl) : RE X (.Call (.Attribute o "rank" apos) [e1] [] pos) σ H Q := by
  obtain ⟨f, fd, g1, g2, g3⟩ := K.ex
  refine RE.of (pe_meth (CX := CX0) (E := E0) re_pe hc g3 g1 (hr.mono hk) g2 .nil pass0 ra_pa hst hpl htr) (ho.imp fun x H1 ⟨a, kd, h, goal, wd, xs, hx, h1, CA, h1', h6, W, hw, SG, M, hl, q⟩ => ?_)
  obtain ⟨dx, g, ea, ig⟩ := CA.mono (rm_le (l := kd))
  refine ⟨a, dx, _, hx, ea, rfl, (ea_d h1 ea_0 hst).1 H1 (Same.refl _) _ fun vs H2 s2 kk => ?_⟩
  obtain ⟨v, rfl, hv⟩ := pd1 kk
  rw [List.append_nil, hx, show v = .str (txt wd) from Im.ofStr hv]
  exact ⟨a, kd, h, goal, wd, xs, rfl, CA.mono (same_rm s2), h1', h6, W, hw, SG, M.mono s2, hl, fun H' s => q H' ((same_rm s2).trans s)⟩
/-- Counter(halls, work) -/
theorem re_ctr {h : Nat} {wd : List Nat} (CI : ∃ f fd, FnOk X.prog X.w X.K X.mg X.base CX0 3 f fd ["self", "halls", "work"] (spCInit X.prog X.w C) ∧ Binds X.K fd ["self", "halls", "work"] [] ∧ Mk X.K C f) (hm : X.mg "Counter" = some (.ref C)) (h1 : ED X e1 σ H (.int (h : Nat))) (h2 : ED X e2 σ H (.str (txt wd))) (b1 : 1 ≤ h) (b6 : h ≤ 6) (W : Word h wd) (hw : wd.length ≤ 8)
    (q : ∀ H' a kd, Same H H' → H kd = none → CtrAt C (rm H' kd) a kd h (cardM h wd) wd.length → MemoAt X.prog X.w (cardM h wd) h wd.length kd H' [] → Q (.ref a) H') (hr : Room k X.A) (hk : 4 ≤ k) (hg : Gl X "Counter" := by rfl)
    (hst : starEach [e1, e2] X.env = (false, eval e1 X.env) :: starEach [e2] X.env := by rfl) (hst2 : starEach [e2] X.env = (false, eval e2 X.env) :: starEach [] X.env := by rfl) (hpl : (backTo pos (starEach [e2] X.env)).any (·.1) = false := by rfl) : RE X (.Call (.Name "Counter" p) [e1, e2] [] pos) σ H Q := by
  obtain ⟨f, fd, g1, g2, g3⟩ := CI
  refine RE.of (pe_make (CX := CX0) (E := E0) g3 g1 (hr.mono hk) hg hm g2 .nil pass0 ra_pa (by decide) hst hpl) ((ea_d h1 (ea_d h2 ea_0 hst2) hst).1 H (Same.refl _) _ fun vs H1 s1 kk => ?_)
  obtain ⟨v, u, rfl, hv, hu⟩ := pd2 kk
  rw [List.append_nil, show v = .int h from Im.ofInt hv, show u = .str (txt wd) from Im.ofStr hu]
  intro x dx hx hdx hne
  refine ⟨x, dx, h, wd, rfl, upd_same, b1, b6, W, hw, fun H' kd g s e ig ek fk => ⟨rfl, ?_⟩⟩
  have sH : Same H1 H' := fun b o eb => s b o (by
    have n1 : b ≠ x := ne_of_none eb hx
    have n2 : b ≠ dx := ne_of_none eb hdx
    rw [rm_ne n1, upd_ne n1, upd_ne n2]
    exact eb)
  have hkx : kd ≠ x := fun z => by rw [z, upd_same] at fk; cases fk
  have hkd : kd ≠ dx := fun z => by rw [z, upd_ne hne, upd_same] at fk; cases fk
  have fk1 : H1 kd = none := by
    rw [upd_ne hkx, upd_ne hkd] at fk
    exact fk
  refine q H' x kd (s1.trans sH) (s1.free fk1) ⟨dx, g, by rw [rm_ne (Ne.symm hkx)]; exact e, ig.mono (tk_toRm ek)⟩ ⟨ek, fun x hx => absurd hx (by simp), fun x hx => absurd hx (by simp)⟩
end
def φHW6 (res : Nat → List Nat → PyData) (ss : List Sl) (r : Sl) : Prop := ∃ (h : Nat) (w : List Nat), ss = [.dat (.int h), .dat (.str (txt w))] ∧ 1 ≤ h ∧ h ≤ 6 ∧ Word h w ∧ w.length ≤ 6 ∧ r = .dat (res h w)
theorem same_off {H H1 H' : Hp} {kd : Addr} (s : Same H H1) (h : H kd = none) (s2 : Same (rm H1 kd) H') : Same H H' := fun b o e => s2 b o (by
  rw [rm_ne (ne_of_none e h)]
  exact s b o e)
theorem scHowMany : FnScope ["halls", "work"] ["halls", "work"] (defScope sHowMany) := ⟨rfl, rfl, rfl, by decide +kernel, rfl, by decide +kernel, by decide +kernel⟩
abbrev KHowMany (m : Md) := Kn m "how_many" ["halls", "work"] 13 (φHW6 fun h w => .int (waysM (cardM h w) h w.length (nothingM h)))
theorem kn_how_many {m : Md} {C : Addr} (T : Tx m) (CT : Ctr m C) (K0 : KShort m) (K1 : KNothing m) (K2 : KCardOf m) (K3 : KWays m C 6) (F : Df m "how_many" sHowMany ["halls", "work"]) : KHowMany m := by
  refine knS F scHowMany (fun ss r ⟨_, _, e, _⟩ => by rw [e]; rfl) fun f rt ss r H σ hφ hr nd G => ?_
  obtain ⟨h, w, rfl, h1, h6, W, hw, rfl⟩ := hφ
  refine rss_expr (ed_call K0 (as_d (vd 0) (as_d (vd 1) as_0)) ⟨h, w, rfl, h1, h6, W, by omega, rfl⟩) fun H1 G1 => ?_
  refine rss_cons (RS.of (ps_ret re_pe) (re_ways0 (r := 6) K3 CT.cls (re_ctr (kn_cinit T CT K2) CT.mg (vd 0) (vd 1) h1 h6 W (by omega) (fun H2 a kd s2 fk CA M => ?_) hr (by decide)) hr (by decide)))
  have G2 := G1.mono s2
  refine ⟨a, kd, h, w.length, 0, cardM h w, nothingM h, [], rfl, ed_call K1 (as_d (vd 0) as_0) ⟨h, rfl, h6, rfl⟩, ed_int, CA, h6, shape_cardM h w, shape_nothing h, by omega, by omega, M, ?_, fun H3 s3 => ?_⟩
  · have : ∀ j, j ≤ 6 → cnt j ≤ 9331 := by
      intro j h
      have : j = 0 ∨ j = 1 ∨ j = 2 ∨ j = 3 ∨ j = 4 ∨ j = 5 ∨ j = 6 := by omega
      rcases this with rfl | rfl | rfl | rfl | rfl | rfl | rfl <;> decide
    have := this (w.length - 0) (by omega)
    show 0 + _ ≤ _
    omega
  · exact ⟨G1.same.trans (same_off s2 fk s3), _, rfl, im_int _⟩
theorem scNumberOf : FnScope ["halls", "work"] ["halls", "work"] (defScope sNumberOf) := ⟨rfl, rfl, rfl, by decide +kernel, rfl, by decide +kernel, by decide +kernel⟩
abbrev KNumberOf (m : Md) := Kn m "number_of" ["halls", "work"] 13 (φHW6 fun h w => .int (rankM (cardM h w) h w.length w w.length).2)
theorem kn_number_of {m : Md} {C : Addr} (T : Tx m) (CT : Ctr m C) (K0 : KShort m) (K2 : KCardOf m) (K3 : KRank m C) (F : Df m "number_of" sNumberOf ["halls", "work"]) : KNumberOf m := by
  refine knS F scNumberOf (fun ss r ⟨_, _, e, _⟩ => by rw [e]; rfl) fun f rt ss r H σ hφ hr nd G => ?_
  obtain ⟨h, w, rfl, h1, h6, W, hw, rfl⟩ := hφ
  refine rss_expr (ed_call K0 (as_d (vd 0) (as_d (vd 1) as_0)) ⟨h, w, rfl, h1, h6, W, by omega, rfl⟩) fun H1 G1 => ?_
  refine rss_cons (RS.of (ps_ret re_pe) (re_rank0 K3 CT.cls (re_ctr (kn_cinit T CT K2) CT.mg (vd 0) (vd 1) h1 h6 W (by omega) (fun H2 a kd s2 fk CA M => ?_) hr (by decide)) hr (by decide)))
  have G2 := G1.mono s2
  exact ⟨a, kd, h, cardM h w, w, [], rfl, vd 1, CA, h1, h6, W, hw, shape_cardM h w, M, rfl, fun H3 s3 => ⟨G1.same.trans (same_off s2 fk s3), _, rfl, im_int _⟩⟩
end Dw
/-! Dw: dicts with texts as keys; sorted -/
namespace Dw
open PySem PySem.Spec PyProof.Rows L2
def dgetP (kvs : List (Key × PyData)) (k : Key) : Option PyData := (kvs.find? fun kv => decide (kv.1 = k)).map (·.2)
def dputP (kvs : List (Key × PyData)) (k : Key) (d : PyData) : List (Key × PyData) := if (kvs.any fun kv => decide (kv.1 = k)) = true then kvs.map (fun kv => if kv.1 = k then (kv.1, d) else kv) else kvs ++ [(k, d)]
theorem imD_nil {H : Hp} : ImD H [] [] := ⟨rfl, imAll_nil⟩
theorem ImD.cons_inv {H : Hp} {p : Key × PyData} {kvs : List (Key × PyData)} {kv : List (Key × V)} (h : ImD H (p :: kvs) kv) : ∃ q r, kv = q :: r ∧ q.1 = p.1 ∧ Im H p.2 q.2 ∧ ImD H kvs r := by
  obtain ⟨h1, h2⟩ := h
  cases kv with
  | nil => simp at h1
  | cons q r =>
    simp only [List.map_cons, List.cons.injEq] at h1
    simp only [List.map_cons] at h2
    obtain ⟨x, xs, e, i1, i2⟩ := h2.uncons
    simp only [List.cons.injEq] at e
    exact ⟨q, r, rfl, h1.1, by rw [e.1]; exact i1, h1.2, by rw [e.2]; exact i2⟩
theorem imD_cons {H : Hp} {p : Key × PyData} {q : Key × V} {kvs : List (Key × PyData)} {kv : List (Key × V)} (e : q.1 = p.1) (i : Im H p.2 q.2) (h : ImD H kvs kv) : ImD H (p :: kvs) (q :: kv) := by
  obtain ⟨h1, h2⟩ := h
  refine ⟨by rw [List.map_cons, List.map_cons, h1, e], ?_⟩
  rw [List.map_cons, List.map_cons]
  exact imAll_cons i h2
theorem ImD.mono {H H' : Hp} {kvs : List (Key × PyData)} {kv : List (Key × V)} (h : ImD H kvs kv) (t : Tk H H') : ImD H' kvs kv := ⟨h.1, h.2.mono t⟩
theorem ImD.len {H : Hp} {kvs : List (Key × PyData)} {kv : List (Key × V)} (h : ImD H kvs kv) : kv.length = kvs.length := by
  have := congrArg List.length h.1
  simpa using this
theorem ImD.get {H : Hp} {k : Key} : ∀ {kvs : List (Key × PyData)} {kv : List (Key × V)}, ImD H kvs kv → (dgetP kvs k = none ∧ valV kv k = none) ∨ ∃ d v, dgetP kvs k = some d ∧ valV kv k = some v ∧ Im H d v
  | [], kv, h => by
    have : kv = [] := by
      have := h.len
      exact List.eq_nil_of_length_eq_zero this
    subst this
    exact .inl ⟨rfl, rfl⟩
  | p :: kvs, kv, h => by
    obtain ⟨q, r, rfl, e, i, h'⟩ := h.cons_inv
    by_cases c : p.1 = k
    · refine .inr ⟨p.2, q.2, ?_, valV_pos (e.trans c), i⟩
      unfold dgetP
      rw [List.find?_cons_of_pos (by simpa using c)]
      rfl
    · have e1 : dgetP (p :: kvs) k = dgetP kvs k := by
        unfold dgetP
        rw [List.find?_cons_of_neg (by simpa using c)]
      rw [e1, valV_neg (p := q) (fun z => c (e.symm.trans z))]
      exact ImD.get h'
theorem ImD.any {H : Hp} {k : Key} {kvs : List (Key × PyData)} {kv : List (Key × V)} (h : ImD H kvs kv) : (kv.any fun p => decide (p.1 = k)) = kvs.any fun p => decide (p.1 = k) := by
  have e1 : (kv.any fun p => decide (p.1 = k)) = (kv.map (·.1)).any fun x => decide (x = k) := by rw [List.any_map]; rfl
  have e2 : (kvs.any fun p => decide (p.1 = k)) = (kvs.map (·.1)).any fun x => decide (x = k) := by rw [List.any_map]; rfl
  rw [e1, e2, h.1]
theorem ImD.mapPut {H : Hp} {k : Key} {d : PyData} {v : V} (i : Im H d v) : ∀ {kvs : List (Key × PyData)} {kv : List (Key × V)}, ImD H kvs kv → ImD H (kvs.map fun kv => if kv.1 = k then (kv.1, d) else kv) (kv.map fun kv => if kv.1 = k then (kv.1, v) else kv)
  | [], kv, h => by
    have : kv = [] := List.eq_nil_of_length_eq_zero h.len
    subst this
    exact imD_nil
  | p :: kvs, kv, h => by
    obtain ⟨q, r, rfl, e, j, h'⟩ := h.cons_inv
    rw [List.map_cons, List.map_cons]
    refine imD_cons ?_ ?_ (ImD.mapPut i h')
    · by_cases c : p.1 = k
      · rw [if_pos c, if_pos (e.trans c)]; exact e
      · rw [if_neg c, if_neg (fun z => c (e.symm.trans z))]; exact e
    · by_cases c : p.1 = k
      · rw [if_pos c, if_pos (e.trans c)]; exact i
      · rw [if_neg c, if_neg (fun z => c (e.symm.trans z))]; exact j
theorem ImD.put {H : Hp} {k : Key} {d : PyData} {v : V} {kvs : List (Key × PyData)} {kv : List (Key × V)} (h : ImD H kvs kv) (i : Im H d v) : ImD H (dputP kvs k d) (putK kv k v) := by
  unfold dputP putK
  rw [h.any]
  split
  · exact h.mapPut i
  · obtain ⟨h1, h2⟩ := h
    refine ⟨by rw [List.map_append, List.map_append, h1]; rfl, ?_⟩
    rw [List.map_append, List.map_append]
    exact h2.append (imAll_cons i imAll_nil)
def rC (kvs : List (Key × PyData)) : VR := fun _ H2 v => ∃ l kv, v = .ref l ∧ H2 l = some (.dK kv) ∧ ImD H2 kvs kv
abbrev EC (X : Cx) (e : Expr) (σ : L2.St) (H : Hp) (kvs : List (Key × PyData)) : Prop := EV X e σ H (rC kvs)
/-! ### texts in order -/
theorem sortedS_pw : ∀ (xs : List Str), sortedS xs = true → xs.Pairwise fun a b => a.cps.toList ≤ b.cps.toList := by
  have go : ∀ (xs : List Str) (p : Str), risingS p xs = true → (p :: xs).Pairwise fun a b => a.cps.toList ≤ b.cps.toList := by
    intro xs
    induction xs with
    | nil => intro p _; exact List.pairwise_singleton ..
    | cons x r ih =>
      intro p h
      have h : (!ltCps x.cps.toList p.cps.toList && risingS x r) = true := h
      rw [Bool.and_eq_true] at h
      have q := ih x h.2
      have hle : p.cps.toList ≤ x.cps.toList := by
        have h1 := h.1
        rw [ltCps_eq] at h1
        have h2 : ¬ x.cps.toList < p.cps.toList := by
          intro z
          rw [decide_eq_true z] at h1
          cases h1
        exact List.not_lt.mp h2
      refine List.pairwise_cons.mpr ⟨fun y hy => ?_, q⟩
      rcases List.mem_cons.mp hy with rfl | hy
      · exact hle
      · exact List.le_trans hle ((List.pairwise_cons.mp q).1 y hy)
  intro xs h
  cases xs with
  | nil => exact List.Pairwise.nil
  | cons x r => exact go r x h
theorem str_eq {a b : Str} (h : a.cps.toList = b.cps.toList) : a = b := by
  cases a; cases b
  simp only [Str.mk.injEq]
  exact Array.toList_inj.mp h
theorem sorted_uniq {xs ys zs : List Str} (h1 : xs.Perm zs) (h2 : ys.Perm zs) (s1 : sortedS xs = true) (s2 : sortedS ys = true) : xs = ys :=
  List.Perm.eq_of_pairwise (le := fun a b => a.cps.toList ≤ b.cps.toList) (fun a b _ _ h k => str_eq (List.le_antisymm h k)) (sortedS_pw xs s1) (sortedS_pw ys s2) (h1.trans h2.symm)
section
open Classical
noncomputable def sortT (xs : List Str) : List Str := if h : ∃ ys : List Str, ys.Perm xs ∧ sortedS ys = true then h.choose else xs
end
theorem sortT_eq {xs ys : List Str} (h1 : ys.Perm xs) (h2 : sortedS ys = true) : ys = sortT xs := by
  have h : ∃ ys : List Str, ys.Perm xs ∧ sortedS ys = true := ⟨ys, h1, h2⟩
  unfold sortT
  rw [dif_pos h]
  exact sorted_uniq h1 h.choose_spec.1 h2 h.choose_spec.2
theorem sortT_perm (xs : List Str) : (sortT xs).Perm xs := by
  unfold sortT
  split
  · rename_i h
    exact h.choose_spec.1
  · exact List.Perm.refl _
section
variable {X : Cx} {B B0 H : Hp} {σ : L2.St} {Γ : List Sl} {a b c e : Expr} {pos pos' p p1 p2 : Pos} {d : PyData} {kvs : List (Key × PyData)} {x z : Str} {rest : List Stmt} {D : Ends} {ks : List Str}
theorem vc (n : Nat) (G : Good B H σ Γ := by assumption) (h : Γ[n]? = some (.dic kvs) := by rfl) (hN : X.N[n]? = some x := by rfl) (hv : Vis X.env.scope x := by first | exact Or.inl rfl | exact Or.inr (Or.inl rfl) | exact Or.inr (Or.inr rfl))
    (hd : (x == ("__debug__" : Str)) = false := by decide) (hcd : (x == ("__classdict__" : Str)) = false := by decide) : EC X (.Name x pos) σ H kvs :=
  ev_pe (pe_var hN hv hd hcd) fun H1 s Q k => by
    obtain ⟨l, kv, e1, _, e2, q⟩ := G.dic h
    exact ⟨_, e1, k _ H1 (Same.refl _) ⟨l, kv, rfl, s _ _ e2, q.mono (Tk.of s)⟩⟩
theorem ed_dget (hu : X.A.units + 64 < cLine) (ha : EC X a σ H kvs) (hb : ED X b σ H (.str z)) (hg : dgetP kvs (.inr z) = some d) (hs : NoSl b := by exact fun _ _ => rfl) : ED X (.Subscript a b pos) σ H d :=
  ev_pe (pe_dget (by omega) re_pe re_pe hs) fun H1 s1 Q q => ha H1 s1 _ fun x H2 s2 ⟨l, kv, e1, e2, q2⟩ => hb H2 (s1.trans s2) _ fun y H3 s3 hy => by
    rcases (q2.mono (Tk.of s3)).get (k := .inr z) with ⟨g1, _⟩ | ⟨d', v, g1, g2, g3⟩
    · rw [hg] at g1; cases g1
    · rw [hg] at g1
      cases g1
      refine ⟨l, v, e1, ?_, q v H3 (s2.trans s3) g3⟩
      rw [show y = .str z from Im.ofStr hy, ← g2]
      exact DGet.k (k := .inr z) (s3 _ _ e2)
theorem et_dnotin (hu : X.A.units + 64 < cLine) (ha : ED X a σ H (.str z)) (hb : EC X b σ H kvs) (hm : behindInMarks .NotIn b = false := by with_unfolding_all rfl) : ET X (.Compare a [.NotIn] [b] pos) σ H (!(dgetP kvs (.inr z)).isSome) := fun H1 s1 Q q =>
  RT.of (pt_cmp (pc_dnotin (by omega) re_pe re_pe) hm) (ha H1 s1 _ fun y H2 s2 hy => hb H2 (s1.trans s2) _ fun x H3 s3 ⟨l, kv, e1, e2, q2⟩ => by
    have q3 := q H3 (s2.trans s3)
    rw [show y = .str z from Im.ofStr hy]
    rcases q2.get (k := .inr z) with ⟨g1, g2⟩ | ⟨d', v, g1, g2, g3⟩
    · rw [g1] at q3
      exact ⟨l, none, e1, by rw [← g2]; exact DGet.k (k := .inr z) e2, _, rfl, q3⟩
    · rw [g1] at q3
      exact ⟨l, some v, e1, by rw [← g2]; exact DGet.k (k := .inr z) e2, _, rfl, q3⟩)
theorem ev_dnew : EV X (.Dict [] [] pos) σ H (fun H1 H2 v => ∃ l, v = .ref l ∧ H1 l = none ∧ H2 l = some (.dK [])) := ev_pe pe_dnewK fun H1 s1 Q q l hl => q _ _ (Same.new hl) ⟨l, rfl, hl, upd_same⟩
theorem sets_dnew : Sets (fun H1 H2 v => ∃ l, v = .ref l ∧ H1 l = none ∧ H2 l = some (.dK [])) (.dic []) := fun B H H2 σ Γ i v G s ⟨l, e1, e2, e3⟩ => by
  rw [e1]
  exact G.setN i e2 s ⟨l, [], rfl, G.same.free e2, e3, imD_nil⟩
/-- name = {} -/
theorem rss_setDic (n : Nat) (k : ∀ σ' H', Good B H' σ' (Γ.set n (.dic [])) → RSs X rest D σ' H') (G : Good B H σ Γ := by assumption)
    (nd : X.N.Nodup := by assumption) (hi : X.N[n]? = some x := by rfl) (hx : Loc X.env.scope x := by first | exact Or.inl rfl | exact Or.inr rfl) (hsw : swapsWith (.Dict [] [] p2) (some (.Name x p)) pos.line X.env = pure false := by rfl) (hf : X.fn x = true ∨ X.env.scope.names.lookup x = some .local := by first | exact .inl rfl | exact .inr rfl) :
    RSs X (.Assign [.Name x p] (.Dict [] [] p2) pos :: rest) D σ H := rss_set0 n G ev_dnew sets_dnew k nd hi hx hsw hf
/-- name[text] = data -/
theorem rss_dput (hu : X.A.units + 64 < cLine) (n : Nat) (hΓ : Γ[n]? = some (.dic kvs)) (hk : ED X b σ H (.str z)) (hv : ED X e σ H d) (hl : kvs.length < sizeLine) (q : ∀ H', Good B H' σ (Γ.set n (.dic (dputP kvs (.inr z) d))) → RSs X rest D σ H')
    (G : Good B H σ Γ := by assumption) (hN : X.N[n]? = some x := by rfl) (hvis : Vis X.env.scope x := by first | exact Or.inl rfl | exact Or.inr (Or.inl rfl) | exact Or.inr (Or.inr rfl)) (hd : (x == ("__debug__" : Str)) = false := by decide) (hcd : (x == ("__classdict__" : Str)) = false := by decide)
    (hs : swapsWith e (some (.Subscript (.Name x p1) b pos')) pos.line X.env = pure false := by rfl) : RSs X (.Assign [.Subscript (.Name x p1) b pos'] e pos :: rest) D σ H :=
  rss_cons (RS.of (ps_dput (by omega) (pe_var hN hvis hd hcd) re_pe re_pe hs) (hv H (Same.refl _) _ fun v H1 s1 iv => by
    obtain ⟨l, kv, e1, e2, e3, q3⟩ := (G.mono s1).dic hΓ
    refine ⟨_, e1, hk H1 s1 _ fun y H2 s2 hy => ?_⟩
    have G2 := (G.mono s1).mono s2
    have hlen := q3.len
    rw [show y = .str z from Im.ofStr hy]
    refine ⟨l, _, rfl, DPut.k (k := .inr z) (s2 _ _ e3) (by omega), ?_⟩
    have nt : ∀ xs, H2 l ≠ some (.tup xs) := fun xs z => by rw [s2 _ _ e3] at z; cases z
    exact q _ (G2.upd hΓ rfl e1 ⟨l, _, rfl, e2, upd_same, ((q3.mono (Tk.of s2)).put (Im.mono (Tk.of s2) _ _ iv)).mono (Tk.upd nt)⟩ rfl)))
/-- sorted(a dict) -/
theorem en_sortedD (hc : X.calm = true) (hg : Gl X "sorted") (hm : X.mg "sorted" = none) (ha : EC X e σ H kvs) (hk : kvs.map (·.1) = ks.map Sum.inr) (h64 : ks.length < 64) (hst : starEach [e] X.env = (false, eval e X.env) :: starEach [] X.env := by rfl) (hpl : (backTo pos (starEach [] X.env)).any (·.1) = false := by rfl) : EN X (.Call (.Name "sorted" p) [e] [] pos) σ H ((sortT ks).map PyData.str) :=
  ev_pe (pe_callB (call_sortedD hc) hg hm boot_sorted (pa_cons re_pe pa_nil hst) (by decide) (by decide) hst hpl) fun H1 s1 Q q => ha H1 s1 _ fun x H2 s2 ⟨l, kv, e1, e2, q2⟩ => by
    refine ⟨l, kv, ks, by rw [e1], .inl e2, by rw [q2.1, hk], h64, fun ys p hp hs hpn => ?_⟩
    have e3 := sortT_eq hp hs
    refine q _ _ (s2.trans (Same.new hpn)) ⟨p, _, rfl, s2.free hpn, upd_same, ?_⟩
    rw [← e3]
    exact imAll_map (fun x => im_str x) ys
end
end Dw
namespace Dw
open PySem PySem.Spec PyProof.Rows L2
abbrev sBeside : Stmt := topS 59
/-! ### texts of doors -/
def untxt (x : Str) : List Nat := x.cps.toList.map (· - 49)
theorem untxt_txt (w : List Nat) : untxt (txt w) = w := by
  unfold untxt
  rw [txt_list, List.map_map]
  have : (fun x => x - 49) ∘ (fun x => x + 49) = (id : Nat → Nat) := by
    funext x
    show x + 49 - 49 = x
    omega
  rw [this, List.map_id]
theorem txt_inj {v w : List Nat} (h : txt v = txt w) : v = w := by rw [← untxt_txt v, h, untxt_txt]
theorem txt_app (v w : List Nat) : txt v ++ txt w = txt (v ++ w) := by
  apply str_eq
  show ((txt v).cps ++ (txt w).cps).toList = _
  rw [Array.toList_append, txt_list, txt_list, txt_list, List.map_append]
theorem cut_take {w : List Nat} {k : Nat} (h : k ≤ w.length) : cutS (txt w) none (some (k : Int)) = txt (w.take k) := by
  apply str_eq
  unfold cutS
  show (((txt w).cps.toList.drop _).take _) = _
  rw [HT.sIx_none, HT.sIx_nat, txt_list, List.drop_zero, txt_list, Nat.sub_zero, txt_len, Nat.min_eq_left h, List.map_take]
theorem cut_drop {w : List Nat} {k : Nat} (h : k ≤ w.length) : cutS (txt w) (some (k : Int)) none = txt (w.drop k) := by
  apply str_eq
  unfold cutS
  show (((txt w).cps.toList.drop _).take _) = _
  rw [HT.sIx_none, HT.sIx_nat, txt_list, txt_list, txt_len, Nat.min_eq_left h, ← List.map_drop, List.take_of_length_le (by rw [List.length_map, List.length_drop]; omega)]
theorem txt_one (n : Nat) : txt [n] = ⟨#[n + 49]⟩ := rfl
def swapM (w : List Nat) (k : Nat) : List Nat := w.take k ++ [w.getD (k + 1) 0] ++ [w.getD k 0] ++ w.drop (k + 2)
theorem swap_len {w : List Nat} {k : Nat} (h : k + 1 < w.length) : (swapM w k).length = w.length := by
  unfold swapM
  simp only [List.length_append, List.length_take, List.length_drop, List.length_singleton]
  omega
theorem swap_word {h : Nat} {w : List Nat} {k : Nat} (W : Word h w) (hk : k + 1 < w.length) : Word h (swapM w k) := by
  intro d hd
  unfold swapM at hd
  simp only [List.mem_append, List.mem_singleton] at hd
  rcases hd with ((hd | hd) | hd) | hd
  · exact W d (List.mem_of_mem_take hd)
  · rw [hd]; exact W.at hk
  · rw [hd]; exact W.at (by omega)
  · exact W d (List.mem_of_mem_drop hd)
/-! ### beside -/
def bOk (h : Nat) (goal : Card) (w s : List Nat) : Bool := (!decide (txt s = txt w)) && PyData.eqv (cardD (cardM h s)) (cardD goal)
def addN (ws : List (List Nat)) (s : List Nat) : List (List Nat) := if s ∈ ws then ws else ws ++ [s]
def bW (h : Nat) (goal : Card) (w : List Nat) : Nat → List (List Nat)
  | 0 => []
  | k + 1 => if bOk h goal w (swapM w k) = true then addN (bW h goal w k) (swapM w k) else bW h goal w k
def bK (ws : List (List Nat)) : List (Key × PyData) := ws.map fun v => (.inr (txt v), .bool true)
theorem bK_put (ws : List (List Nat)) (s : List Nat) : dputP (bK ws) (.inr (txt s)) (.bool true) = bK (addN ws s) := by
  have hany : ((bK ws).any fun kv => decide (kv.1 = (Sum.inr (txt s) : Key))) = decide (s ∈ ws) := by
    unfold bK
    rw [List.any_map]
    by_cases h : s ∈ ws
    · rw [decide_eq_true h, List.any_eq_true]
      exact ⟨s, h, decide_eq_true rfl⟩
    · rw [decide_eq_false h, List.any_eq_false]
      intro x hx z
      have z := of_decide_eq_true z
      injection z with z
      exact h (txt_inj z ▸ hx)
  unfold dputP addN
  rw [hany]
  by_cases h : s ∈ ws
  · rw [decide_eq_true h, if_pos rfl, if_pos h]
    unfold bK
    rw [List.map_map]
    refine List.map_congr_left fun v hv => ?_
    show (if (Sum.inr (txt v) : Key) = Sum.inr (txt s) then ((Sum.inr (txt v) : Key), PyData.bool true) else _) = _
    split <;> rfl
  · rw [decide_eq_false h, if_neg Bool.false_ne_true, if_neg h]
    unfold bK
    rw [List.map_append]
    rfl
theorem bW_len (h : Nat) (goal : Card) (w : List Nat) : ∀ k, (bW h goal w k).length ≤ k
  | 0 => Nat.le_refl _
  | k + 1 => by
    have := bW_len h goal w k
    unfold bW addN
    split
    · split
      · omega
      · rw [List.length_append, List.length_singleton]; omega
    · omega
theorem bW_mem {h : Nat} {goal : Card} {w : List Nat} {v : List Nat} : ∀ {k : Nat}, v ∈ bW h goal w k ↔ ∃ i, i < k ∧ v = swapM w i ∧ bOk h goal w v = true
  | 0 => ⟨fun z => (List.not_mem_nil z).elim, fun ⟨i, hi, _⟩ => absurd hi (by omega)⟩
  | k + 1 => by
    have ih := @bW_mem h goal w v k
    unfold bW addN
    by_cases c : bOk h goal w (swapM w k) = true
    · rw [if_pos c]
      by_cases m : swapM w k ∈ bW h goal w k
      · rw [if_pos m, ih]
        refine ⟨fun ⟨i, hi, e⟩ => ⟨i, by omega, e⟩, fun ⟨i, hi, e1, e2⟩ => ?_⟩
        by_cases z : i = k
        · rw [z] at e1
          rw [← e1] at m
          exact ih.mp m
        · exact ⟨i, by omega, e1, e2⟩
      · rw [if_neg m, List.mem_append, List.mem_singleton, ih]
        refine ⟨fun z => z.elim (fun ⟨i, hi, e⟩ => ⟨i, by omega, e⟩) fun e => ⟨k, by omega, e, by rw [e]; exact c⟩, fun ⟨i, hi, e1, e2⟩ => ?_⟩
        by_cases z : i = k
        · rw [z] at e1
          exact .inr e1
        · exact .inl ⟨i, by omega, e1, e2⟩
    · rw [if_neg c, ih]
      refine ⟨fun ⟨i, hi, e⟩ => ⟨i, by omega, e⟩, fun ⟨i, hi, e1, e2⟩ => ?_⟩
      by_cases z : i = k
      · rw [z] at e1
        rw [e1] at e2
        exact absurd e2 c
      · exact ⟨i, by omega, e1, e2⟩
noncomputable def besM (h : Nat) (goal : Card) (w : List Nat) : List (List Nat) := (sortT ((bW h goal w (w.length - 1)).map txt)).map untxt
theorem besM_txt (h : Nat) (goal : Card) (w : List Nat) : (besM h goal w).map txt = sortT ((bW h goal w (w.length - 1)).map txt) := by
  unfold besM
  rw [List.map_map]
  have : ∀ x ∈ sortT ((bW h goal w (w.length - 1)).map txt), (txt ∘ untxt) x = x := fun x hx => by
    obtain ⟨v, _, rfl⟩ := List.mem_map.mp ((sortT_perm _).mem_iff.mp hx)
    show txt (untxt (txt v)) = _
    rw [untxt_txt]
  rw [List.map_congr_left this, List.map_id']
theorem besM_mem {h : Nat} {goal : Card} {w v : List Nat} : v ∈ besM h goal w ↔ v ∈ bW h goal w (w.length - 1) := by
  have e : txt v ∈ (besM h goal w).map txt ↔ txt v ∈ (bW h goal w (w.length - 1)).map txt := by
    rw [besM_txt]
    exact (sortT_perm _).mem_iff
  have inj : ∀ ws : List (List Nat), txt v ∈ ws.map txt ↔ v ∈ ws := fun ws => ⟨fun z => by
    obtain ⟨u, hu, e⟩ := List.mem_map.mp z
    exact txt_inj e ▸ hu, fun z => List.mem_map.mpr ⟨v, z, rfl⟩⟩
  rw [inj, inj] at e
  exact e
theorem besM_len (h : Nat) (goal : Card) (w : List Nat) : (besM h goal w).length ≤ w.length - 1 := by
  have e := congrArg List.length (besM_txt h goal w)
  rw [List.length_map] at e
  rw [e, (sortT_perm _).length_eq, List.length_map]
  exact bW_len _ _ _ _
theorem scBeside : FnScope ["halls", "work", "goal", "found", "at", "other"] ["halls", "work", "goal"] (defScope sBeside) := ⟨rfl, rfl, rfl, by decide +kernel, rfl, by decide +kernel, by decide +kernel⟩
def txts (ws : List (List Nat)) : List PyData := ws.map fun v => .str (txt v)
def φBeside (ss : List Sl) (r : Sl) : Prop := ∃ (h : Nat) (w : List Nat) (goal : Card), ss = [.dat (.int h), .dat (.str (txt w)), .dat (cardD goal)] ∧ 1 ≤ h ∧ h ≤ 6 ∧ Word h w ∧ w.length ≤ 6 ∧ r = .lst (txts (besM h goal w))
abbrev KBeside (m : Md) := Kn m "beside" ["halls", "work", "goal"] 3 φBeside
theorem kn_beside {m : Md} (T : Tx m) (K1 : KCardOf m) (F : Df m "beside" sBeside ["halls", "work", "goal"]) : KBeside m := by
  refine knS F scBeside (fun ss r ⟨_, _, _, e, _⟩ => by rw [e]; rfl) fun f rt ss r H σ hφ hr nd G => ?_
  obtain ⟨h, w, goal, rfl, h1, h6, W, hw, rfl⟩ := hφ
  have hu := hr.units
  have em : (((w.length : Nat) : Int) - 1).toNat = w.length - 1 := by omega
  refine rss_setDic 3 fun σ H G => ?_
  refine rss_forR1 4 (ed_sub (lenT (by rfl) T.len (vd 1) (small _ (by omega))) ed_int) (by omega) (by omega) (fun i Γ => Γ = [.dat (.int h), .dat (.str (txt w)), .dat (cardD goal), .dic (bK (bW h goal w i)), .un, .un]) rfl (fun B' sB i Γ σ H hi j G => ?_) (fun B' sB Γ σ H j G => ?_) (by rfl) T.range
  · subst j
    rw [em] at hi
    have hk : i + 1 < w.length := by omega
    have ez : ∀ k : Nat, k ≤ 6 → (txt (w.take k)).length ≤ 6 := fun k hk => by rw [txt_len, List.length_take]; omega
    have z1 : ∀ n : Nat, (⟨#[n]⟩ : Str).length = 1 := fun n => rfl
    have lapp : ∀ a b : Str, (a ++ b).length = a.length + b.length := fun a b => Str.length_append a b
    refine rss_set (d := .str (txt (swapM w i))) 5 (ED.to (ed_addS (ed_addS (ed_addS (ed_slS (vd 1) eo_n (eo_s (vd 4)) (by rw [txt_len]; exact small _ (by omega))) (ed_ixS (n := w.getD (i + 1) 0 + 49) (i + 1) (vd 1) (ed_add (vd 4) ed_int) (by omega) (by rw [txt_list, List.getElem?_map, getElem?_D (d := 0) hk]; rfl) (by rw [txt_len]; exact small _ (by omega))) ?_)
      (ed_ixS (n := w.getD i 0 + 49) i (vd 1) (vd 4) rfl (by rw [txt_list, List.getElem?_map, getElem?_D (d := 0) (show i < w.length by omega)]; rfl) (by rw [txt_len]; exact small _ (by omega))) ?_) (ed_slS (l := some ((i + 2 : Nat) : Int)) (vd 1) (eo_s (ED.to (ed_add (vd 4) ed_int) (by congr 1))) eo_n (by rw [txt_len]; exact small _ (by omega))) ?_) ?_) fun σ H G => ?_
    · rw [cut_take (by omega), z1]
      have := ez i (by omega)
      exact small _ (by omega)
    · rw [lapp, cut_take (by omega), z1, z1]
      have := ez i (by omega)
      exact small _ (by omega)
    · rw [lapp, lapp, cut_take (by omega), z1, z1, cut_drop (by omega), txt_len (w.drop _), List.length_drop]
      have := ez i (by omega)
      exact small _ (by omega)
    · rw [cut_take (by omega), cut_drop (by omega), ← txt_one, ← txt_one, txt_app, txt_app, txt_app]
      rfl
    have hsl : (swapM w i).length ≤ 8 := by rw [swap_len hk]; omega
    have hb : bW h goal w (i + 1) = if bOk h goal w (swapM w i) = true then addN (bW h goal w i) (swapM w i) else bW h goal w i := rfl
    refine rss_ifJ (fun Γ => Γ = [.dat (.int h), .dat (.str (txt w)), .dat (cardD goal), .dic (bK (bW h goal w (i + 1))), .un, .un]) (et_and (et_neS (vd 5) (vd 1)) fun _ => et_eq hu (ed_call K1 (as_d (vd 0) (as_d (vd 5) as_0)) ⟨h, swapM w i, rfl, h1, h6, swap_word W hk, hsl, rfl⟩) (vd 2) ((plain_card _).shaped (by decide)) ((plain_card _).shaped (by decide))) (fun H G z => ?_) (fun H G z => ?_) fun Γ σ H j G => rss_nil ⟨_, j, G⟩
    · refine rss_dput hu 3 rfl (vd 5) ed_bl ?_ fun H G => ?_
      · have := bW_len h goal w i
        unfold bK
        rw [List.length_map]
        exact smallL _ (by omega)
      refine rss_nil ⟨_, rfl, ?_⟩
      rw [hb, if_pos (show bOk h goal w (swapM w i) = true from z), ← bK_put]
      exact G.wk
    · refine rss_nil ⟨_, rfl, ?_⟩
      rw [hb, if_neg (show ¬ bOk h goal w (swapM w i) = true from fun y => by rw [show bOk h goal w (swapM w i) = false from z] at y; cases y)]
      exact G.wk
  · subst j
    rw [em] at G
    refine rss_retN (EN.to (en_sortedD (ks := (bW h goal w (w.length - 1)).map txt) rfl (by rfl) T.sorted (vc 3) ?_ ?_) ?_)
    · unfold bK
      rw [List.map_map, List.map_map]
      rfl
    · rw [List.length_map]
      have := bW_len h goal w (w.length - 1)
      omega
    · rw [← besM_txt, List.map_map]
      rfl
end Dw
/-! Dw: the search, plain -/
namespace Dw
open PySem PySem.Spec PyProof.Rows L2
abbrev Reach := List (List Nat × Nat)
def wds (L : Reach) : List (List Nat) := L.map (·.1)
def addL (d : Nat) (L : Reach) (v : List Nat) : Reach := if v ∈ wds L then L else L ++ [(v, d + 1)]
def bfsStep (B : List Nat → List (List Nat)) (at_ : Nat) (L : Reach) : Reach := (B (L.getD at_ ([], 0)).1).foldl (addL (L.getD at_ ([], 0)).2) L
def bfsM (B : List Nat → List (List Nat)) : Nat → Nat → Reach → Reach
  | 0, _, L => L
  | f + 1, at_, L => if at_ < L.length then bfsM B f (at_ + 1) (bfsStep B at_ L) else L
structure Linv (B : List Nat → List (List Nat)) (G : List Nat → Prop) (o : List Nat) (at_ : Nat) (L : Reach) : Prop where
  nd : (wds L).Nodup
  good : ∀ p ∈ L, G p.1
  zero : L[0]? = some (o, 0)
  pred : ∀ i p, 0 < i → L[i]? = some p → ∃ (j : Nat) (q : List Nat × Nat), L[j]? = some q ∧ p.1 ∈ B q.1 ∧ p.2 = q.2 + 1
  clos : ∀ i p, i < at_ → L[i]? = some p → ∀ v ∈ B p.1, v ∈ wds L
  le : at_ ≤ L.length
  dst : ∀ (i : Nat) (p : List Nat × Nat), L[i]? = some p → p.2 ≤ i
variable {B : List Nat → List (List Nat)} {G : List Nat → Prop} {o : List Nat} {at_ d : Nat} {L : Reach} {v w : List Nat}
theorem wds_snoc (L : Reach) (p : List Nat × Nat) : wds (L ++ [p]) = wds L ++ [p.1] := by
  unfold wds
  rw [List.map_append]
  rfl
theorem addL_pre (d : Nat) (L : Reach) (v : List Nat) : ∃ E, addL d L v = L ++ E := by
  unfold addL
  split
  · exact ⟨[], (List.append_nil _).symm⟩
  · exact ⟨_, rfl⟩
theorem addL_at {i : Nat} {p : List Nat × Nat} (h : L[i]? = some p) : (addL d L v)[i]? = some p := by
  obtain ⟨E, e⟩ := addL_pre d L v
  rw [e, List.getElem?_append_left (List.getElem?_eq_some_iff.mp h).1]
  exact h
theorem addL_sub (h : w ∈ wds L) : w ∈ wds (addL d L v) := by
  obtain ⟨E, e⟩ := addL_pre d L v
  rw [e]
  unfold wds at *
  rw [List.map_append]
  exact List.mem_append_left _ h
theorem addL_mem : v ∈ wds (addL d L v) := by
  unfold addL
  split
  · assumption
  · rw [wds_snoc]
    exact List.mem_append_right _ (List.mem_singleton.mpr rfl)
theorem addL_inv (I : Linv B G o at_ L) {q : List Nat × Nat} {j : Nat} (hq : L[j]? = some q) (hv : v ∈ B q.1) (hG : G v) : Linv B G o at_ (addL q.2 L v) := by
  have he : addL q.2 L v = if v ∈ wds L then L else L ++ [(v, q.2 + 1)] := rfl
  by_cases c : v ∈ wds L
  · rw [he, if_pos c]
    exact I
  · have e2 : addL q.2 L v = L ++ [(v, q.2 + 1)] := by rw [he, if_neg c]
    refine ⟨?_, fun p hp => ?_, addL_at I.zero, fun i p hi hp => ?_, fun i p hi hp u hu => ?_, ?_, fun i p hp => ?_⟩
    · rw [e2, wds_snoc]
      exact List.nodup_append.mpr ⟨I.nd, List.pairwise_singleton _ _, fun a ha b hb => fun z => by
        rw [List.mem_singleton] at hb
        rw [hb] at z
        have z : a = v := z
        rw [z] at ha
        exact c ha⟩
    · rw [e2] at hp
      rcases List.mem_append.mp hp with h | h
      · exact I.good p h
      · rw [List.mem_singleton] at h
        rw [h]
        exact hG
    · rw [e2] at hp
      by_cases hl : i < L.length
      · rw [List.getElem?_append_left hl] at hp
        obtain ⟨j2, q2, h1, h2, h3⟩ := I.pred i p hi hp
        exact ⟨j2, q2, addL_at h1, h2, h3⟩
      · rw [List.getElem?_append_right (by omega)] at hp
        have hm := List.mem_of_getElem? hp
        rw [List.mem_singleton] at hm
        rw [hm]
        exact ⟨j, q, addL_at hq, hv, rfl⟩
    · rw [e2] at hp
      have hl : i < L.length := Nat.lt_of_lt_of_le hi I.le
      rw [List.getElem?_append_left hl] at hp
      exact addL_sub (I.clos i p hi hp u hu)
    · rw [e2, List.length_append]
      have := I.le
      omega
    · rw [e2] at hp
      by_cases hl : i < L.length
      · rw [List.getElem?_append_left hl] at hp
        exact I.dst i p hp
      · rw [List.getElem?_append_right (by omega)] at hp
        have hm := List.mem_of_getElem? hp
        rw [List.mem_singleton] at hm
        have h1 := I.dst j q hq
        have h2 := (List.getElem?_eq_some_iff.mp hq).1
        rw [hm]
        show q.2 + 1 ≤ i
        omega
/-- a whole row of neighbours -/
theorem row_inv {q : List Nat × Nat} (hq : ∀ (u : List Nat), u ∈ B q.1 → G u) : ∀ (vs : List (List Nat)) {L : Reach}, (∀ v ∈ vs, v ∈ B q.1) → Linv B G o at_ L → L[at_]? = some q → Linv B G o at_ (vs.foldl (addL q.2) L) ∧ (vs.foldl (addL q.2) L)[at_]? = some q ∧ (∀ v ∈ vs, v ∈ wds (vs.foldl (addL q.2) L)) ∧ ∀ v ∈ wds L, v ∈ wds (vs.foldl (addL q.2) L)
  | [], L, _, I, h => ⟨I, h, fun v hv => (List.not_mem_nil hv).elim, fun v hv => hv⟩
  | v :: vs, L, hs, I, h => by
    rw [List.foldl_cons]
    obtain ⟨h1, h2, h3, h4⟩ := row_inv hq vs (fun u hu => hs u (List.mem_cons_of_mem _ hu)) (addL_inv I h (hs v List.mem_cons_self) (hq v (hs v List.mem_cons_self))) (addL_at h)
    refine ⟨h1, h2, fun u hu => ?_, fun u hu => h4 u (addL_sub hu)⟩
    rcases List.mem_cons.mp hu with rfl | hu
    · exact h4 _ addL_mem
    · exact h3 u hu
theorem getD_of {α : Type} {xs : List α} {i : Nat} {x d : α} (h : xs[i]? = some x) : xs.getD i d = x := by
  rw [List.getD_eq_getElem?_getD, h]
  rfl
theorem step_inv (hB : ∀ w, G w → ∀ v ∈ B w, G v) (I : Linv B G o at_ L) (h : at_ < L.length) : Linv B G o (at_ + 1) (bfsStep B at_ L) := by
  have e := List.getElem?_eq_getElem h
  generalize L[at_] = q at e
  have gq := I.good q (List.mem_of_getElem? e)
  unfold bfsStep
  rw [getD_of e]
  obtain ⟨h1, h2, h3, h4⟩ := row_inv (B := B) (fun u hu => hB q.1 gq u hu) (B q.1) (fun v hv => hv) I e
  refine ⟨h1.nd, h1.good, h1.zero, h1.pred, fun i p hi hp v hv => ?_, ?_, h1.dst⟩
  · by_cases c : i = at_
    · rw [c, h2] at hp
      injection hp with hp
      rw [← hp] at hv
      exact h3 v hv
    · exact h1.clos i p (by omega) hp v hv
  · exact (List.getElem?_eq_some_iff.mp h2).1
theorem bfs_end (f : Nat) (h : ¬ at_ < L.length) : bfsM B f at_ L = L := by
  cases f with
  | zero => rfl
  | succ f => rw [bfsM, if_neg h]
/-! ### few words -/
theorem nodup_lt : ∀ (N : Nat) (l : List Nat), l.Nodup → (∀ x ∈ l, x < N) → l.length ≤ N
  | 0, l, _, h => by
    cases l with
    | nil => exact Nat.le_refl _
    | cons x l => exact absurd (h x List.mem_cons_self) (by omega)
  | N + 1, l, nd, h => by
    have q := nodup_lt N (l.erase N) (nd.erase N) fun x hx => by
      have h1 := h x (List.mem_of_mem_erase hx)
      have h2 : x ≠ N := fun z => by
        rw [z] at hx
        exact (List.Nodup.not_mem_erase nd) hx
      omega
    have e : (l.erase N).length ≥ l.length - 1 := by
      rw [List.length_erase]
      split <;> omega
    omega
def code : List Nat → Nat
  | [] => 0
  | d :: w => d + 6 * code w
theorem code_lt : ∀ (w : List Nat), Word 6 w → code w < 6 ^ w.length
  | [], _ => by decide
  | d :: w, h => by
    have ih := code_lt w fun x hx => h x (List.mem_cons_of_mem _ hx)
    have := h d List.mem_cons_self
    rw [code, List.length_cons, Nat.pow_succ]
    omega
theorem code_inj : ∀ (v w : List Nat), Word 6 v → Word 6 w → v.length = w.length → code v = code w → v = w
  | [], [], _, _, _, _ => rfl
  | [], _ :: _, _, _, h, _ => by simp at h
  | _ :: _, [], _, _, h, _ => by simp at h
  | d :: v, e :: w, hv, hw, hl, hc => by
    have h1 := hv d List.mem_cons_self
    have h2 := hw e List.mem_cons_self
    rw [code, code] at hc
    have e1 : d = e := by omega
    have e2 : code v = code w := by omega
    rw [e1, code_inj v w (fun x hx => hv x (List.mem_cons_of_mem _ hx)) (fun x hx => hw x (List.mem_cons_of_mem _ hx)) (by simpa using hl) e2]
theorem few {n : Nat} (hG : ∀ w, G w → Word 6 w ∧ w.length = n) (hn : n ≤ 6) (I : Linv B G o at_ L) : L.length ≤ 46656 := by
  have hw : ∀ v ∈ wds L, Word 6 v ∧ v.length = n := fun v hv => by
    obtain ⟨p, hp, rfl⟩ := List.mem_map.mp hv
    exact hG _ (I.good p hp)
  have q := nodup_lt (6 ^ n) ((wds L).map code) ?_ ?_
  · rw [List.length_map] at q
    have e : (wds L).length = L.length := List.length_map _
    have : 6 ^ n ≤ 6 ^ 6 := Nat.pow_le_pow_right (by decide) hn
    have : (6 : Nat) ^ 6 = 46656 := by decide
    omega
  · refine List.Pairwise.map code (fun a b h => h) ?_ |> fun z => z
    refine (List.Pairwise.and_mem.mp I.nd).imp fun {a b} ⟨ha, hb, hne⟩ z => hne ?_
    obtain ⟨a1, a2⟩ := hw a ha
    obtain ⟨b1, b2⟩ := hw b hb
    exact code_inj a b a1 b1 (a2.trans b2.symm) z
  · intro x hx
    obtain ⟨v, hv, rfl⟩ := List.mem_map.mp hx
    obtain ⟨a1, a2⟩ := hw v hv
    have := code_lt v a1
    rw [a2] at this
    exact this
/-! ### the way back -/
def distOf (L : Reach) (v : List Nat) : Nat := match L.find? (fun p => decide (p.1 = v)) with
  | some p => p.2
  | none => 0
theorem dist_at (nd : (wds L).Nodup) {p : List Nat × Nat} (h : p ∈ L) : distOf L p.1 = p.2 := by
  unfold distOf
  have : L.find? (fun q => decide (q.1 = p.1)) = some p := by
    induction L with
    | nil => cases h
    | cons q L ih =>
      have nd' : (q.1 :: wds L).Nodup := nd
      rw [List.nodup_cons] at nd'
      by_cases c : q.1 = p.1
      · rw [List.find?_cons_of_pos (by simpa using c)]
        rcases List.mem_cons.mp h with e | e
        · rw [e]
        · exact absurd (List.mem_map.mpr ⟨p, e, c.symm⟩) nd'.1
      · rw [List.find?_cons_of_neg (by simpa using c)]
        refine ih nd'.2 ?_
        rcases List.mem_cons.mp h with e | e
        · rw [e] at c
          exact absurd rfl c
        · exact e
  rw [this]
def nears (B : List Nat → List (List Nat)) (L : Reach) (d : Nat) (w : List Nat) : List (List Nat) := (B w).filter fun v => decide (distOf L v = d)
def pathM (B : List Nat → List (List Nat)) (L : Reach) : Nat → List Nat → List (List Nat)
  | 0, _ => []
  | d + 1, w => ((nears B L d w).headD []) :: pathM B L d ((nears B L d w).headD [])
/-- what the search leaves -/
structure Done (B : List Nat → List (List Nat)) (G : List Nat → Prop) (o : List Nat) (L : Reach) : Prop where
  nd : (wds L).Nodup
  good : ∀ p ∈ L, G p.1
  zero : (o, 0) ∈ L
  clos : ∀ p ∈ L, ∀ v ∈ B p.1, v ∈ wds L
  pred : ∀ p ∈ L, p.1 ≠ o → ∃ q ∈ L, p.1 ∈ B q.1 ∧ p.2 = q.2 + 1
  dst : ∀ p ∈ L, p.2 ≤ L.length
theorem Linv.done (I : Linv B G o at_ L) (h : ¬ at_ < L.length) : Done B G o L := by
  refine ⟨I.nd, I.good, List.mem_of_getElem? I.zero, fun p hp v hv => ?_, fun p hp hne => ?_, fun p hp => ?_⟩
  · obtain ⟨i, hi, e⟩ := List.mem_iff_getElem.mp hp
    exact I.clos i p (by omega) (by rw [List.getElem?_eq_getElem hi, e]) v hv
  · obtain ⟨i, hi, e⟩ := List.mem_iff_getElem.mp hp
    have e2 : L[i]? = some p := by rw [List.getElem?_eq_getElem hi, e]
    have h0 : 0 < i := by
      rcases Nat.eq_zero_or_pos i with z | z
      · rw [z, I.zero] at e2
        injection e2 with e2
        rw [← e2] at hne
        exact absurd rfl hne
      · exact z
    obtain ⟨j, q, h1, h2, h3⟩ := I.pred i p h0 e2
    exact ⟨q, List.mem_of_getElem? h1, h2, h3⟩
  · obtain ⟨i, hi, e⟩ := List.mem_iff_getElem.mp hp
    have := I.dst i p (by rw [List.getElem?_eq_getElem hi, e])
    omega
theorem nears_head (sym : ∀ v w, G v → w ∈ B v → v ∈ B w) (Dn : Done B G o L) {p : List Nat × Nat} {d : Nat} (hp : p ∈ L) (hd : p.2 = d + 1) : ∃ v r, nears B L d p.1 = v :: r ∧ (v, d) ∈ L ∧ v ∈ B p.1 := by
  have hne : p.1 ≠ o := fun z => by
    have e1 := dist_at Dn.nd hp
    have e2 := dist_at Dn.nd Dn.zero
    rw [z] at e1
    simp only at e2
    omega
  obtain ⟨q, hq, h1, h2⟩ := Dn.pred p hp hne
  have hm : q.1 ∈ nears B L d p.1 := List.mem_filter.mpr ⟨sym q.1 p.1 (Dn.good q hq) h1, decide_eq_true (by rw [dist_at Dn.nd hq]; omega)⟩
  cases e : nears B L d p.1 with
  | nil => rw [e] at hm; cases hm
  | cons v r =>
    have hv : v ∈ nears B L d p.1 := by rw [e]; exact List.mem_cons_self
    obtain ⟨hv1, hv2⟩ := List.mem_filter.mp hv
    obtain ⟨u, hu, eu⟩ := List.mem_map.mp (Dn.clos p hp v hv1)
    have hv2 := of_decide_eq_true hv2
    rw [← eu, dist_at Dn.nd hu] at hv2
    exact ⟨v, r, rfl, by rw [← eu, ← hv2]; exact hu, hv1⟩
theorem zero_only (Dn : Done B G o L) {p : List Nat × Nat} (hp : p ∈ L) : p.2 = 0 ↔ p.1 = o := by
  refine ⟨fun z => Classical.byContradiction fun hne => ?_, fun z => ?_⟩
  · obtain ⟨q, _, _, h2⟩ := Dn.pred p hp hne
    omega
  · have e1 := dist_at Dn.nd hp
    have e2 := dist_at Dn.nd Dn.zero
    rw [z] at e1
    simp only at e2
    omega
/-! ### swaps go back -/
theorem eqv_refl_card (c : Card) : PyData.eqv (cardD c) (cardD c) = true := by
  have hI : ∀ r : List Int, PyData.eqvAll (r.map PyData.int) (r.map PyData.int) = true := by
    intro r
    induction r with
    | nil => unfold PyData.eqvAll; rfl
    | cons x r ih =>
      rw [List.map_cons]
      unfold PyData.eqvAll
      rw [ih]
      unfold PyData.eqv
      simp
  have hR : ∀ r : List Int, PyData.eqv (rowD r) (rowD r) = true := fun r => by
    unfold rowD PyData.eqv
    exact hI r
  have hA : ∀ c : Card, PyData.eqvAll (c.map rowD) (c.map rowD) = true := by
    intro c
    induction c with
    | nil => unfold PyData.eqvAll; rfl
    | cons x c ih =>
      rw [List.map_cons]
      unfold PyData.eqvAll
      rw [ih, hR]
      rfl
  unfold cardD PyData.eqv
  exact hA c
theorem swap_swap {w : List Nat} {k : Nat} (h : k + 1 < w.length) : swapM (swapM w k) k = w := by
  have hl := swap_len h
  have ht : (swapM w k).take k = w.take k := by
    unfold swapM
    rw [List.append_assoc, List.append_assoc, List.take_append_of_le_length (by rw [List.length_take]; omega), List.take_take, Nat.min_self]
  have e0 : (w.take k).length = k := by rw [List.length_take]; omega
  have h0 : (swapM w k).getD k 0 = w.getD (k + 1) 0 := by
    unfold swapM
    rw [List.append_assoc, List.append_assoc, List.getD_eq_getElem?_getD, List.getElem?_append_right (by omega), e0, Nat.sub_self]
    rfl
  have h1 : (swapM w k).getD (k + 1) 0 = w.getD k 0 := by
    unfold swapM
    rw [List.append_assoc, List.append_assoc, List.getD_eq_getElem?_getD, List.getElem?_append_right (by omega), e0, Nat.add_sub_cancel_left]
    rfl
  have hd : (swapM w k).drop (k + 2) = w.drop (k + 2) := by
    unfold swapM
    have e1 : (w.take k ++ [w.getD (k + 1) 0] ++ [w.getD k 0]).length = k + 2 := by
      simp only [List.length_append, e0, List.length_singleton]
    rw [List.drop_append_of_le_length (by omega), List.drop_of_length_le (by omega)]
    rfl
  show (swapM w k).take k ++ [(swapM w k).getD (k + 1) 0] ++ [(swapM w k).getD k 0] ++ (swapM w k).drop (k + 2) = w
  rw [ht, h0, h1, hd]
  have e2 : w.drop k = w.getD k 0 :: w.getD (k + 1) 0 :: w.drop (k + 2) := by
    rw [List.drop_eq_getElem_cons (show k < w.length by omega), List.drop_eq_getElem_cons h]
    rw [List.getD_eq_getElem?_getD, List.getD_eq_getElem?_getD, List.getElem?_eq_getElem h, List.getElem?_eq_getElem (show k < w.length by omega)]
    rfl
  have e3 := List.take_append_drop k w
  rw [e2] at e3
  simpa using e3
/-- the words of one card -/
def Kin (h : Nat) (goal : Card) (n : Nat) (w : List Nat) : Prop := Word h w ∧ w.length = n ∧ PyData.eqv (cardD (cardM h w)) (cardD goal) = true
theorem bes_iff {h : Nat} {goal : Card} {w v : List Nat} : v ∈ besM h goal w ↔ ∃ k, k + 1 < w.length ∧ v = swapM w k ∧ v ≠ w ∧ PyData.eqv (cardD (cardM h v)) (cardD goal) = true := by
  rw [besM_mem, bW_mem]
  constructor
  · rintro ⟨i, hi, e, ok⟩
    unfold bOk at ok
    rw [Bool.and_eq_true] at ok
    refine ⟨i, by omega, e, fun z => ?_, ok.2⟩
    have h1 := ok.1
    rw [z, decide_eq_true rfl] at h1
    cases h1
  · rintro ⟨i, hi, e, hne, ok⟩
    refine ⟨i, by omega, e, ?_⟩
    unfold bOk
    rw [decide_eq_false (fun z => hne (txt_inj z)), ok]
    rfl
theorem kin_bes {h n : Nat} {goal : Card} : ∀ w, Kin h goal n w → ∀ v ∈ besM h goal w, Kin h goal n v := fun w ⟨W, hl, _⟩ v hv => by
  obtain ⟨k, hk, e, _, ok⟩ := bes_iff.mp hv
  exact ⟨by rw [e]; exact swap_word W hk, by rw [e, swap_len hk]; exact hl, ok⟩
theorem bes_sym {h n : Nat} {goal : Card} : ∀ v w, Kin h goal n v → w ∈ besM h goal v → v ∈ besM h goal w := fun v w ⟨W, hl, ok⟩ hw => by
  obtain ⟨k, hk, e, hne, _⟩ := bes_iff.mp hw
  refine bes_iff.mpr ⟨k, ?_, ?_, fun z => hne z.symm, ok⟩
  · rw [e, swap_len hk]
    exact hk
  · rw [e, swap_swap hk]
end Dw
/-! Dw: a comprehension with a test; a dict display; three names at once -/
namespace Dw
open PySem PySem.Spec PyProof.Rows L2
theorem filter_succ (k : Nat → Bool) (n : Nat) : (List.range (n + 1)).filter k = (List.range n).filter k ++ if k n = true then [n] else [] := by
  rw [List.range_succ, List.filter_append]
  congr 1
  by_cases h : k n = true
  · rw [if_pos h, List.filter_cons_of_pos h]; rfl
  · rw [if_neg h, List.filter_cons_of_neg h]; rfl
section
variable {X : Cx} {B B0 H : Hp} {σ : L2.St} {Γ : List Sl} {a b c e iter elt kx vx : Expr} {pos p p1 p2 p3 tpos : Pos} {d : PyData} {ds : List PyData} {x y z : Str} {rest : List Stmt} {D : Ends}
theorem lc_Lf {scope : Scope} {own : List (Str × Nat)} {out : Nat → PyData} {k : Nat → Bool} (t : Nat) (ha : EN X iter σ H ds) (hz : ds.length ≤ sizeLine) (ok : BlkOk X.N X.env.scope scope own)
    (ht : ∀ s0 H0 C cl fp (i : Nat) d σ' H', ds[i]? = some d → Good B H' σ' ((wipeG Γ (own.map (·.2))).set t (.dat d)) → ET (X.blk s0 H0 scope (compEnvC scope cl C X.env) fp) c σ' H' (k i))
    (he : ∀ s0 H0 C cl fp (i : Nat) d σ' H', ds[i]? = some d → Good B H' σ' ((wipeG Γ (own.map (·.2))).set t (.dat d)) → ED (X.blk s0 H0 scope (compEnvC scope cl C X.env) fp) elt σ' H' (out i))
    (G : Good B H σ Γ := by assumption) (nd : X.N.Nodup := by assumption) (hc : X.calm = true := by rfl) (hnt : t ∈ own.map (·.2) := by decide)
    (hi : X.N[t]? = some x := by rfl) (hx : ∀ (cl : List (Str × Addr)) (C : Addr), Loc (compEnvC scope cl C X.env).scope x := by first | exact fun _ _ => Or.inl rfl | exact fun _ _ => Or.inr rfl) (hf : ∀ (cl : List (Str × Addr)) (C : Addr), (scope.names.lookup x == some .cell) = true ∨ (compEnvC scope cl C X.env).scope.names.lookup x = some .local := by first | exact fun _ _ => .inr rfl | exact fun _ _ => .inl rfl)
    (hs : ∀ x, foldedSetIterable iter X.env x = pure x := by intro _; rfl) : ENc X elt (.Name x p1) iter [c] scope own σ H (((List.range ds.length).filter k).map out) := by
  intro H1 s1 Q q
  refine ⟨_, gName t, fun σ H Q => ∀ s0 H0 C cl fp, RT (X.blk s0 H0 scope (compEnvC scope cl C X.env) fp) c σ H Q, fun σ H Q => ∀ s0 H0 C cl fp, RE (X.blk s0 H0 scope (compEnvC scope cl C X.env) fp) elt σ H Q, pi_list re_pe, ok, fun _ _ C cl _ => pg_name nd hi (hx cl C) (hf cl C), fun s H C cl fp => pts_one ⟨fun pins s' σ H Q I h => h _ _ _ _ _ pins s' I⟩, fun s H C cl fp => ⟨fun pins s' σ H Q I h => h _ _ _ _ _ pins s' I⟩, hs, ?_⟩
  refine ha H1 s1 _ fun v H2 s2 ⟨l, vs, e1, n1, g1, g2⟩ => ⟨l, e1, ⟨vs, SqL.of g1⟩, fun D hD => ?_⟩
  have hl := g2.length
  have G2 : Good B H2 σ Γ := (G.mono s1).mono s2
  refine lc_it (g := gName t) (tt := fun σ H Q => ∀ s0 H0 C cl fp, RT (X.blk s0 H0 scope (compEnvC scope cl C X.env) fp) c σ H Q) (te := fun σ H Q => ∀ s0 H0 C cl fp, RE (X.blk s0 H0 scope (compEnvC scope cl C X.env) fp) elt σ H Q) (vs := own.map (·.2)) (σ := σ) walk_list (fun i H => Same H2 H ∧ ∃ acc, H D = some (.lst acc) ∧ ImAll H (((List.range i).filter k).map out) acc) ⟨Same.new hD, [], upd_same, imAll_nil⟩ (fun i H _ ⟨s3, _⟩ => SqL.of (s3 _ _ g1)) (fun i v H H' hi ⟨s3, acc, a1, a2⟩ ⟨eH, ev⟩ => ?_) fun H ⟨s3, acc, a1, a2⟩ => q _ _ (s2.trans s3) ⟨D, acc, rfl, s2.free hD, a1, by rw [hl] at a2; exact a2⟩
  subst eH
  have hi2 : i < ds.length := by omega
  have e0 := List.getElem?_eq_getElem hi2
  obtain ⟨v', e1, q1⟩ := g2.get e0
  rw [ev] at e1
  cases e1
  have Gb := ((G2.mono s3).wiped (own.map (·.2))).setD t (q1.mono (Tk.of s3))
  refine ⟨wipe_set1 hnt, fun s0 H0 C cl fp => ht s0 H0 C cl fp i _ _ _ e0 Gb _ (Same.refl _) _ fun H3 s4 => ?_⟩
  by_cases hk : k i = true
  · rw [hk, if_pos rfl]
    refine fun s0 H0 C cl fp => he s0 H0 C cl fp i _ _ _ e0 (Gb.mono s4) _ (Same.refl _) _ fun y H4 s5 hy => ?_
    have s45 := s4.trans s5
    refine ⟨acc, s45 _ _ a1, ?_, ?_⟩
    · rw [a2.length, List.length_map]
      have := List.length_filter_le k (List.range i)
      rw [List.length_range] at this
      omega
    · have nt : ∀ xs, H4 D ≠ some (.tup xs) := fun xs z => by rw [s45 _ _ a1] at z; cases z
      refine ⟨fun b o hb => ?_, _, upd_same, ?_⟩
      · rw [upd_ne (ne_of_none hb hD)]
        exact s45 _ _ (s3 _ _ hb)
      · rw [filter_succ, if_pos hk, List.map_append]
        exact ((a2.mono (Tk.of s45)).append (imAll_cons hy imAll_nil)).mono (Tk.upd nt)
  · rw [if_neg hk]
    refine ⟨s3.trans s4, acc, s4 _ _ a1, ?_⟩
    rw [filter_succ, if_neg hk, List.append_nil]
    exact a2.mono (Tk.of s4)
/-- {text: data} -/
theorem ev_disp1 (hk : ED X kx σ H (.str z)) (hv : ED X vx σ H d) : EV X (.Dict [some kx] [vx] pos) σ H (fun H1 H2 u => ∃ l w, u = .ref l ∧ H1 l = none ∧ H2 l = some (.dK [(.inr z, w)]) ∧ Im H2 d w) :=
  ev_pe (pe_disp (pps_cons re_pe re_pe pps_nil) rfl rfl (by simp) (by simp)) fun H1 s1 Q q => by
    intro l hl
    have sl : Same H1 (upd H1 l (.dK [])) := Same.new hl
    refine hk _ (s1.trans sl) _ fun u H2 s2 hu => hv _ ((s1.trans sl).trans s2) _ fun w H3 s3 hw => ?_
    have hw : Im H3 d w := hw
    rw [show u = .str z from Im.ofStr hu]
    have e3 : H3 l = some (.dK []) := (s2.trans s3) _ _ upd_same
    refine ⟨e3, [(.inr z, w)], rfl, by show 1 ≤ 15; decide, ?_⟩
    have nt : ∀ xs, H3 l ≠ some (.tup xs) := fun xs z => by rw [e3] at z; cases z
    refine q _ _ (fun b o hb => ?_) ⟨l, w, rfl, hl, upd_same, hw.mono (Tk.upd nt)⟩
    rw [upd_ne (ne_of_none hb hl)]
    exact (s2.trans s3) _ _ (sl _ _ hb)
theorem sets_disp : Sets (fun H1 H2 u => ∃ l w, u = .ref l ∧ H1 l = none ∧ H2 l = some (.dK [(.inr z, w)]) ∧ Im H2 d w) (.dic [(.inr z, d)]) := fun B H H2 σ Γ i v G s ⟨l, w, e1, e2, e3, e4⟩ => by
  rw [e1]
  exact G.setN i e2 s ⟨l, _, rfl, G.same.free e2, e3, imD_cons rfl e4 imD_nil⟩
/-- d, l, i = {..}, [..], data -/
theorem rss_dli {px py pz pt p4 : Pos} {kt k2 : Nat} {w : Str} (n m o : Nat) (ha : EV X a σ H (fun H1 H2 u => ∃ l w', u = .ref l ∧ H1 l = none ∧ H2 l = some (.dK [(.inr w, w')]) ∧ Im H2 d w')) (hb : EN X b σ H ds) {d3 : PyData} (hc3 : ED X c σ H d3) (k : ∀ σ' H', Good B H' σ' (((Γ.set n (.dic [(.inr w, d)])).set m (.lst ds)).set o (.dat d3)) → RSs X rest D σ' H') (G : Good B H σ Γ := by assumption)
    (nd : X.N.Nodup := by assumption) (hc : X.calm = true := by rfl) (hi : X.N[n]? = some x := by rfl) (hj : X.N[m]? = some y := by rfl) (hk : X.N[o]? = some z := by rfl) (hx : Loc X.env.scope x := by first | exact Or.inl rfl | exact Or.inr rfl) (hf : X.fn x = true ∨ X.env.scope.names.lookup x = some .local := by first | exact .inl rfl | exact .inr rfl)
    (hy : Loc X.env.scope y := by first | exact Or.inl rfl | exact Or.inr rfl) (hf2 : X.fn y = true ∨ X.env.scope.names.lookup y = some .local := by first | exact .inl rfl | exact .inr rfl) (hzz : Loc X.env.scope z := by first | exact Or.inl rfl | exact Or.inr rfl) (hf3 : X.fn z = true ∨ X.env.scope.names.lookup z = some .local := by first | exact .inl rfl | exact .inr rfl)
    (hw : swappedStores [.Tuple [.Name x px, .Name y py, .Name z pz] kt pt] (.Tuple [a, b, c] k2 p4) X.env = pure none := by rfl) (hs : swapsWithSole [.Tuple [.Name x px, .Name y py, .Name z pz] kt pt] (.Tuple [a, b, c] k2 p4) pos.line X.env = pure false := by rfl)
    (h0 : (assignEach [.Tuple [.Name x px, .Name y py, .Name z pz] kt pt] X.env).map (·.2) = [assign (.Tuple [.Name x px, .Name y py, .Name z pz] kt pt) X.env] := by rfl)
    (h1 : (assignEach [.Name x px, .Name y py, .Name z pz] X.env).length = 3 := by rfl) (h2 : (assignEach [.Name x px, .Name y py, .Name z pz] X.env).findIdx? (·.1) = none := by rfl)
    (h3 : (assignEach [.Name x px, .Name y py, .Name z pz] X.env).map (·.2) = assign (.Name x px) X.env :: (assignEach [.Name y py, .Name z pz] X.env).map (·.2) := by rfl) (h4 : (assignEach [.Name y py, .Name z pz] X.env).map (·.2) = assign (.Name y py) X.env :: (assignEach [.Name z pz] X.env).map (·.2) := by rfl)
    (h5 : (assignEach [.Name z pz] X.env).map (·.2) = assign (.Name z pz) X.env :: (assignEach [] X.env).map (·.2) := by rfl)
    (q1 : starEach [a, b, c] X.env = (false, eval a X.env) :: starEach [b, c] X.env := by rfl) (q2 : starEach [b, c] X.env = (false, eval b X.env) :: starEach [c] X.env := by rfl) (q3 : starEach [c] X.env = (false, eval c X.env) :: starEach [] X.env := by rfl) :
    RSs X (.Assign [.Tuple [.Name x px, .Name y py, .Name z pz] kt pt] (.Tuple [a, b, c] k2 p4) pos :: rest) D σ H :=
  rss_cons (RS.of (ps_asg (pe_tup (pa_cons re_pe (pa_cons re_pe (pa_cons re_pe pa_nil q3) q2) q1)) (pg_tup hc (pgs_cons (pg_name nd hi hx hf) (pgs_cons (pg_name nd hj hy hf2) (pgs_cons (pg_name nd hk hzz hf3) pgs_nil h5) h4) h3) h1 h2) hs hw h0) (by
    refine ha H (Same.refl _) _ fun u H1 s1 r1 => hb H1 s1 _ fun v H2 s2 r2 => hc3 H2 (s1.trans s2) _ fun w' H3 s3 r3 => ⟨by show 3 ≤ 16777216; decide, fun T hT => ?_⟩
    have sT : Same H3 (upd H3 T (.tup [u, v, w'])) := Same.new hT
    refine ⟨T, [u, v, w'], rfl, SqT.of upd_same, rfl, u, [v, w'], rfl, v, [w'], rfl, w', [], rfl, rfl, ?_⟩
    have G1 := sets_disp _ _ _ _ _ n u G s1 r1
    have G2 := sets_N _ _ _ _ _ m v G1 s2 r2
    exact k _ _ ((sets_D _ _ _ _ _ o w' G2 s3 r3).mono sT)))
end
end Dw
namespace Dw
open PySem PySem.Spec PyProof.Rows L2
abbrev sLed : Stmt := topS 60
/-- a def that may raise -/
def cxE (m : Md) (N : List Str) (qual : Str) (st : Stmt) (f : Addr) (r : Rt) : Cx := cxOf (L2.CX m.P m.w) m.P m.w m.K m.mg m.base N qual (defScope st) f r.cdv r.A r.outer r.s r.H r.E
theorem rss_nox {X : Cx} {sts : List Stmt} {D : Ends} {σ : L2.St} {H : Hp} (h : RSs X.nox sts D σ H) : RSs X sts D σ H := RSs.of (PSs.nox rss_pss) h
/-- the class that is raised -/
structure Xc (m : Md) (x : Str) (C : Addr) : Prop where
  mg : m.mg x = some (.ref C)
  ex : PySem.W.excIn m.K C [.type "ValueError", .type "Exception", .type "BaseException", .type "object"] "ValueError.__new__" = true
  kp : PySem.W.keepIn m.K (.ref C) = true
  sub : PySem.W.subIn m.K (.ref C) (.type "BaseException") = some true
  ty : PySem.W.typeIn m.K (.ref C) = some (.type "type")
/-! ### led -/
def far (L : Reach) : List (Key × PyData) := L.map fun p => (.inr (txt p.1), .int (p.2 : Nat))
theorem far_find (v : List Nat) : ∀ L : Reach, (far L).find? (fun kv => decide (kv.1 = (Sum.inr (txt v) : Key))) = (L.find? (fun p => decide (p.1 = v))).map fun p => ((.inr (txt p.1) : Key), PyData.int (p.2 : Nat))
  | [] => rfl
  | p :: L => by
    have ih := far_find v L
    show List.find? _ (((Sum.inr (txt p.1) : Key), PyData.int (p.2 : Nat)) :: far L) = _
    by_cases c : p.1 = v
    · rw [List.find?_cons_of_pos (by simp [c]), List.find?_cons_of_pos (by simpa using c)]
      rfl
    · rw [List.find?_cons_of_neg (by
        simp only [decide_eq_true_eq]
        intro z
        injection z with z
        exact c (txt_inj z)), List.find?_cons_of_neg (by simpa using c), ih]
theorem find_none {L : Reach} {v : List Nat} : L.find? (fun p => decide (p.1 = v)) = none ↔ v ∉ wds L := by
  rw [List.find?_eq_none]
  constructor
  · intro h hm
    obtain ⟨p, hp, e⟩ := List.mem_map.mp hm
    exact h p hp (decide_eq_true e)
  · intro h p hp z
    exact h (List.mem_map.mpr ⟨p, hp, of_decide_eq_true z⟩)
theorem far_isSome {L : Reach} {v : List Nat} : (dgetP (far L) (.inr (txt v))).isSome = decide (v ∈ wds L) := by
  unfold dgetP
  rw [far_find, Option.isSome_map, Option.isSome_map]
  by_cases c : v ∈ wds L
  · rw [decide_eq_true c]
    cases e : L.find? (fun p => decide (p.1 = v)) with
    | none => exact absurd c (find_none.mp e)
    | some p => rfl
  · rw [decide_eq_false c, find_none.mpr c]
    rfl
theorem far_get {L : Reach} {v : List Nat} (h : v ∈ wds L) : dgetP (far L) (.inr (txt v)) = some (.int (distOf L v : Nat)) := by
  unfold dgetP distOf
  rw [far_find]
  cases e : L.find? (fun p => decide (p.1 = v)) with
  | none => exact absurd h (find_none.mp e)
  | some p => rfl
theorem far_put {L : Reach} {v : List Nat} {d : Nat} (h : v ∉ wds L) : dputP (far L) (.inr (txt v)) (.int (d : Nat)) = far (L ++ [(v, d)]) := by
  unfold dputP
  have : ((far L).any fun kv => decide (kv.1 = (Sum.inr (txt v) : Key))) = false := by
    rw [List.any_eq_false]
    intro kv hkv z
    obtain ⟨p, hp, rfl⟩ := List.mem_map.mp hkv
    have z := of_decide_eq_true z
    injection z with z
    exact h (List.mem_map.mpr ⟨p, hp, txt_inj z⟩)
  rw [this, if_neg Bool.false_ne_true]
  unfold far
  rw [List.map_append]
  rfl
theorem far_len (L : Reach) : (far L).length = L.length := List.length_map _
theorem wds_len (L : Reach) : (wds L).length = L.length := List.length_map _
theorem txts_at {ws : List (List Nat)} {i : Nat} {d : PyData} (h : (txts ws)[i]? = some d) : ∃ v, ws[i]? = some v ∧ d = .str (txt v) := by
  unfold txts at h
  rw [List.getElem?_map] at h
  obtain ⟨v, h1, h2⟩ := Option.map_eq_some_iff.mp h
  exact ⟨v, h1, h2.symm⟩
theorem txts_of {ws : List (List Nat)} {i : Nat} {v : List Nat} (h : ws[i]? = some v) : (txts ws)[i]? = some (.str (txt v)) := by
  unfold txts
  rw [List.getElem?_map, h]
  rfl
theorem take_next {α : Type} {xs : List α} {j : Nat} {v : α} (h : xs[j]? = some v) : xs.take (j + 1) = xs.take j ++ [v] := by
  rw [List.take_add_one, h]
  rfl
theorem filter_at (xs : List (List Nat)) (p : List Nat → Bool) (f : List Nat → PyData) : ((List.range xs.length).filter fun i => p (xs.getD i [])).map (fun i => f (xs.getD i [])) = (xs.filter p).map f := by
  have e : (List.range xs.length).map (fun i => xs.getD i []) = xs := by
    have := range_at (f := fun x : List Nat => x) (d := []) xs
    rw [List.map_id'] at this
    exact this
  have e2 : xs.filter p = ((List.range xs.length).filter fun i => p (xs.getD i [])).map fun i => xs.getD i [] := by
    conv => lhs; rw [← e]
    rw [List.filter_map]
    rfl
  rw [e2, List.map_map]
  rfl
noncomputable def reachM (h : Nat) (goal : Card) (o : List Nat) : Reach := bfsM (besM h goal) 46657 0 [(o, 0)]
open Classical in
noncomputable def ledM (h : Nat) (w o : List Nat) : Sl := if w ∈ wds (reachM h (cardM h w) o) then .lst (txts (pathM (besM h (cardM h w)) (reachM h (cardM h w) o) (distOf (reachM h (cardM h w) o) w) w)) else .dat .none
def spLed (CU : Addr) : Sp := fun vs H Q E => ∃ (h : Nat) (w o : List Nat), vs = [.int (h : Nat), .str (txt w), .str (txt o)] ∧ 1 ≤ h ∧ h ≤ 6 ∧ Word h w ∧ w.length ≤ 6 ∧ Word h o ∧ o.length = w.length ∧
  (PyData.eqv (cardD (cardM h o)) (cardD (cardM h w)) = true → ∀ u H', Same H H' → SlOk H H' (some u) (ledM h w o) → Q u H') ∧ (PyData.eqv (cardD (cardM h o)) (cardD (cardM h w)) = false → ∀ H', Same H H' → E (.ref CU) none H')
structure KnX (m : Md) (x : Str) (ps : List Str) (k : Nat) (sp : Sp) : Prop where
  ex : ∃ (f : Addr) (fd : FuncData), FnOk m.P m.w m.K m.mg m.base (L2.CX m.P m.w) k f fd ps sp ∧ m.mg x = some (.ref f) ∧ PySem.W.keepIn m.K (.ref f) = true ∧ Binds m.K fd ps []
abbrev KLed (m : Md) (CU : Addr) := KnX m "led" ["halls", "one", "other"] 4 (spLed CU)
abbrev nLed : List Str := ["halls", "one", "other", "goal", "far", "line", "at", "later", "found"]
theorem scLed : FnScope nLed ["halls", "one", "other"] (defScope sLed) := ⟨rfl, rfl, rfl, by decide +kernel, rfl, by decide +kernel, by decide +kernel⟩
theorem kn_led {m : Md} {CU : Addr} (T : Tx m) (XU : Xc m "Unlike" CU) (K1 : KNeedHalls m) (K2 : KNeedWork m) (K3 : KShort m) (K4 : KCardOf m) (K5 : KBeside m) (F : Df m "led" sLed ["halls", "one", "other"]) : KLed m CU := by
  obtain ⟨f, fd, g1, g2, g3⟩ := F.ex
  refine ⟨f, fd, ?_, g2, g1.kp, g3⟩
  refine g1.okX scLed (fun vs H Q E ⟨_, _, _, e, _⟩ => by rw [e]; rfl) fun cdv A outer s H vs Q E hr hsp => ?_
  obtain ⟨h, w, o, rfl, h1, h6, W, hw, W2, hlo, qn, qx⟩ := hsp
  have hr : Room 3 (cxE m nLed "led" sLed f ⟨cdv, A, outer, s, H, E⟩).A := hr
  have nd : (cxE m nLed "led" sLed f ⟨cdv, A, outer, s, H, E⟩).N.Nodup := scLed.nd
  have hu := hr.units
  refine ⟨RSs (cxE m nLed "led" sLed f ⟨cdv, A, outer, s, H, E⟩) (defBody sLed), rss_pss, ?_⟩
  have G : Good H H (L2.start nLed [V.int (h : Nat), .str (txt w), .str (txt o)]) [.dat (.int (h : Nat)), .dat (.str (txt w)), .dat (.str (txt o)), .un, .un, .un, .un, .un, .un] :=
    (start_good (N := nLed) (ss := [.dat (.int (h : Nat)), .dat (.str (txt w)), .dat (.str (txt o))]) (by show 3 ≤ 9; decide) (.cons ⟨rfl, _, rfl, im_int _⟩ (.cons ⟨rfl, _, rfl, im_str _⟩ (.cons ⟨rfl, _, rfl, im_str _⟩ .nil))))
  refine rss_expr (ed_call K1 (as_d (vd 0) as_0) ⟨h, rfl, h1, h6, rfl⟩) fun H1 G => ?_
  refine rss_expr (ed_call K2 (as_d (vd 0) (as_d (vd 1) as_0)) ⟨h, w, rfl, h1, h6, W, by omega, rfl⟩) fun H1 G => ?_
  refine rss_expr (ed_call K2 (as_d (vd 0) (as_d (vd 2) as_0)) ⟨h, o, rfl, h1, h6, W2, by omega, rfl⟩) fun H1 G => ?_
  refine rss_expr (ed_call K3 (as_d (vd 0) (as_d (vd 1) as_0)) ⟨h, w, rfl, h1, h6, W, by omega, rfl⟩) fun H1 G => ?_
  refine rss_expr (ed_call K3 (as_d (vd 0) (as_d (vd 2) as_0)) ⟨h, o, rfl, h1, h6, W2, by omega, rfl⟩) fun H1 G => ?_
  refine rss_set 3 (ed_call K4 (as_d (vd 0) (as_d (vd 1) as_0)) ⟨h, w, rfl, h1, h6, W, by omega, rfl⟩) fun σ H1 G => ?_
  refine rss_if (et_ne hu (ed_call K4 (as_d (vd 0) (as_d (vd 2) as_0)) ⟨h, o, rfl, h1, h6, W2, by omega, rfl⟩) (vd 3) ((plain_card _).shaped (by decide)) ((plain_card _).shaped (by decide))) (fun H2 G hne => ?_) (fun H2 G heq => ?_)
  · have hne : PyData.eqv (cardD (cardM h o)) (cardD (cardM h w)) = false := by simpa using hne
    refine rss_cons (RS.of (ps_raise (W := fun cls d _ H => E cls d H) rfl (takes_of rfl rfl rfl rfl) (pmk_own PySem.F.excBase_ValueError XU.ex XU.mg XU.kp (raises_own XU.sub XU.ty) (by rfl))) ?_)
    exact qx hne H2 G.same
  · have heq : PyData.eqv (cardD (cardM h o)) (cardD (cardM h w)) = true := by simpa using heq
    refine rss_nil (rss_nox ?_)
    refine (RSs.imp (D := Dr H (ledM h w o)) ?_ (fun σ H' ⟨s1, q1⟩ => qn heq _ _ s1 q1) (fun v H' ⟨s1, q1⟩ => qn heq _ _ s1 q1) (fun _ _ z => z.elim) (fun _ _ z => z.elim))
    have BG : ∀ v, Kin h (cardM h w) o.length v → ∀ u ∈ besM h (cardM h w) v, Kin h (cardM h w) o.length u := kin_bes
    have I0 : Linv (besM h (cardM h w)) (Kin h (cardM h w) o.length) o 0 [(o, 0)] := ⟨(show List.Nodup [o] from List.pairwise_singleton _ _), fun p hp => by
        rw [List.mem_singleton] at hp
        rw [hp]
        exact ⟨W2, rfl, heq⟩, rfl, fun i p hi hp => by
        cases i with
        | zero => exact absurd hi (by omega)
        | succ i => simp at hp, fun i p hi => absurd hi (by omega), by simp, fun i p hp => by
        have := List.mem_of_getElem? hp
        rw [List.mem_singleton] at this
        rw [this]
        exact Nat.zero_le _⟩
    have fewL : ∀ {at_ L}, Linv (besM h (cardM h w)) (Kin h (cardM h w) o.length) o at_ L → L.length ≤ 46656 := fun I => few (fun v hv => ⟨hv.1.up h6, hv.2.1⟩) (by omega) I
    replace G := G.cast (show _ = [.dat (.int (h : Nat)), .dat (.str (txt w)), .dat (.str (txt o)), .dat (cardD (cardM h w)), .un, .un, .un, .un, .un] from rfl)
    unfold ledM reachM
    generalize hgo : cardM h w = goal at G heq I0 BG fewL
    refine rss_dli (w := txt o) (d := .int 0) (ds := txts [o]) (d3 := .int 0) 4 5 6 (ev_disp1 (vd 2) ed_int) (en_lst (ds := txts [o]) (ea_d (vd 2) ea_0) (hl := by show 1 ≤ 16777216; decide)) ed_int fun σ H3 G => ?_
    refine rss_while (fun n Γ => ∃ (at_ : Nat) (L : Reach), at_ + n = 46657 ∧ Linv (besM h goal) (Kin h goal o.length) o at_ L ∧ bfsM (besM h goal) n at_ L = bfsM (besM h goal) 46657 0 [(o, 0)] ∧
      Γ = [.dat (.int (h : Nat)), .dat (.str (txt w)), .dat (.str (txt o)), .dat (cardD goal), .dic (far L), .lst (txts (wds L)), .dat (.int (at_ : Nat)), .un, .un]) 46657 ⟨0, [(o, 0)], rfl, I0, rfl, rfl⟩ (G := G.cast rfl) fun B1 sB1 n Γ σ H j G => ?_
    obtain ⟨at_, L, hn, I, hbf, rfl⟩ := j
    have hL := fewL I
    refine ⟨_, et_lt (vd 6) (lenL (n := L.length) (by rfl) T.len (vl 5) (by unfold txts; rw [List.length_map, wds_len])), fun hk H4 G => ?_, fun hk H4 G => ?_⟩
    · have hlt : at_ < L.length := by have := of_decide_eq_true hk; omega
      have eq0 := List.getElem?_eq_getElem hlt
      generalize hq : L[at_] = q at eq0
      have Kq := I.good q (List.mem_of_getElem? eq0)
      have ewl : (wds L)[at_]? = some q.1 := by unfold wds; rw [List.getElem?_map, eq0]; rfl
      refine rss_forL 7 (en_call K5 (as_d (vd 0) (as_d (ed_ixL at_ (vl 5) (vd 6) rfl (txts_of ewl)) (as_d (vd 3) as_0))) ⟨h, q.1, goal, rfl, h1, h6, Kq.1, by rw [Kq.2.1]; omega, rfl⟩)
        (fun j Γ => ∃ Lj : Reach, Lj = ((besM h goal q.1).take j).foldl (addL q.2) L ∧ Γ = [.dat (.int (h : Nat)), .dat (.str (txt w)), .dat (.str (txt o)), .dat (cardD goal), .dic (far Lj), .lst (txts (wds Lj)), .dat (.int (at_ : Nat)), .un, .un]) ⟨L, rfl, rfl⟩ (fun B2 sB2 j d Γ σ H hj jj G => ?_) (fun B2 sB2 Γ σ H jj G => ?_)
      · obtain ⟨Lj, eLj, rfl⟩ := jj
        obtain ⟨v, hv, rfl⟩ := txts_at hj
        have hrow := row_inv (B := besM h goal) (G := Kin h goal o.length) (o := o) (at_ := at_) (q := q) (fun u hu => BG q.1 Kq u hu) ((besM h goal q.1).take j) (fun u hu => List.mem_of_mem_take hu) I eq0
        rw [← eLj] at hrow
        obtain ⟨Ij, ej, _, _⟩ := hrow
        have eLs : addL q.2 Lj v = ((besM h goal q.1).take (j + 1)).foldl (addL q.2) L := by
          rw [take_next hv, List.foldl_append, ← eLj]
          rfl
        have hLj := fewL Ij
        have ewj : (wds Lj)[at_]? = some q.1 := by unfold wds; rw [List.getElem?_map, ej]; rfl
        refine rss_ifJ (fun Γ => ∃ Lj : Reach, Lj = ((besM h goal q.1).take (j + 1)).foldl (addL q.2) L ∧ Γ = [.dat (.int (h : Nat)), .dat (.str (txt w)), .dat (.str (txt o)), .dat (cardD goal), .dic (far Lj), .lst (txts (wds Lj)), .dat (.int (at_ : Nat)), .un, .un]) (et_dnotin hu (vd 7) (vc 4)) (fun H5 G hk2 => ?_) (fun H5 G hk2 => ?_) fun Γ σ H jj G => rss_nil ⟨_, jj, G⟩
        · have hnot : v ∉ wds Lj := fun z => by
            rw [far_isSome, decide_eq_true z] at hk2
            cases hk2
          have eg : dgetP (far Lj) (.inr (txt q.1)) = some (.int (q.2 : Nat)) := by
            rw [far_get (List.mem_of_getElem? ewj), dist_at Ij.nd (List.mem_of_getElem? ej)]
          refine rss_dput hu (d := .int ((q.2 + 1 : Nat) : Int)) 4 rfl (vd 7) (ED.to (ed_add (ed_dget hu (vc 4) (ed_ixL at_ (vl 5) (vd 6) rfl (txts_of ewj)) eg) ed_int) (by congr 1)) ?_ fun H6 G => ?_
          · rw [far_len]
            exact smallL _ (by omega)
          rw [far_put hnot] at G
          refine rss_app 5 rfl (vd 7) ?_ fun H7 G => ?_
          · unfold txts
            rw [List.length_map, wds_len]
            exact smallL _ (by omega)
          refine rss_nil ⟨_, ⟨Lj ++ [(v, q.2 + 1)], ?_, rfl⟩, ?_⟩
          · rw [← eLs]
            unfold addL
            rw [if_neg hnot]
          · have e : txts (wds Lj) ++ [.str (txt v)] = txts (wds (Lj ++ [(v, q.2 + 1)])) := by
              rw [wds_snoc]
              unfold txts
              rw [List.map_append]
              rfl
            rw [← e]
            exact G.wk
        · have hin : v ∈ wds Lj := Classical.byContradiction fun z => by
            rw [far_isSome, decide_eq_false z] at hk2
            cases hk2
          refine rss_nil ⟨_, ⟨Lj, ?_, rfl⟩, G.wk⟩
          rw [← eLs]
          unfold addL
          rw [if_pos hin]
      · obtain ⟨Lj, eLj, rfl⟩ := jj
        have el : (txts (besM h goal q.1)).length = (besM h goal q.1).length := List.length_map _
        rw [el, List.take_length] at eLj
        have est : bfsStep (besM h goal) at_ L = Lj := by
          unfold bfsStep
          rw [getD_of eq0]
          exact eLj.symm
        refine rss_aug 6 (pip_of iop_add) rfl ed_int fun σ H8 G => ?_
        obtain ⟨n', rfl⟩ : ∃ n', n = n' + 1 := ⟨n - 1, by omega⟩
        refine rss_nil ⟨n', _, by omega, ⟨at_ + 1, Lj, by omega, by rw [← est]; exact step_inv BG I hlt, ?_, rfl⟩, (G.less sB2).wk⟩
        rw [← hbf, bfsM, if_pos hlt, est]
    · have hge : ¬ at_ < L.length := by have := of_decide_eq_false hk; omega
      have eL : bfsM (besM h goal) 46657 0 [(o, 0)] = L := by
        rw [← hbf]
        exact bfs_end n hge
      rw [eL]
      have Dn := I.done hge
      refine rss_if (et_dnotin hu (vd 1) (vc 4)) (fun H5 G hk2 => ?_) (fun H5 G hk2 => ?_)
      · have hnot : w ∉ wds L := fun z => by
          rw [far_isSome, decide_eq_true z] at hk2
          cases hk2
        rw [if_neg hnot]
        exact rss_retD ed_non
      · have hin : w ∈ wds L := Classical.byContradiction fun z => by
          rw [far_isSome, decide_eq_false z] at hk2
          cases hk2
        rw [if_pos hin]
        refine rss_nil ?_
        refine rss_setN 8 en_nil fun σ H6 G => ?_
        obtain ⟨p0, hp0, ep0⟩ := List.mem_map.mp hin
        have ed0 := dist_at Dn.nd hp0
        rw [ep0] at ed0
        have hd0 : distOf L w ≤ 46656 := by
          rw [ed0]
          exact Nat.le_trans (Dn.dst p0 hp0) hL
        have hm0 : (w, distOf L w) ∈ L := by
          rw [ed0]
          rw [← ep0]
          exact hp0
        refine rss_while (fun n Γ => ∃ (v : List Nat) (acc : List (List Nat)), (v, n) ∈ L ∧ acc ++ pathM (besM h goal) L n v = pathM (besM h goal) L (distOf L w) w ∧ acc.length + n = distOf L w ∧
          Γ = [.dat (.int (h : Nat)), .dat (.str (txt v)), .dat (.str (txt o)), .dat (cardD goal), .dic (far L), .lst (txts (wds L)), .dat (.int (at_ : Nat)), .un, .lst (txts acc)]) (distOf L w) ⟨w, [], hm0, rfl, Nat.zero_add _, rfl⟩ fun B3 sB3 n2 Γ σ H j G => ?_
        obtain ⟨v, acc, hv, hpath, hacc, rfl⟩ := j
        have Kv := Dn.good _ hv
        have hz := zero_only Dn hv
        refine ⟨_, et_neS (vd 1) (vd 2), fun hk H7 G => ?_, fun hk H7 G => ?_⟩
        · have hne : v ≠ o := fun z => by
            rw [z, decide_eq_true rfl] at hk
            cases hk
          obtain ⟨n3, rfl⟩ : ∃ n3, n2 = n3 + 1 := ⟨n2 - 1, by
            have : n2 ≠ 0 := fun z => hne (hz.mp z)
            omega⟩
          obtain ⟨u, r, er, hu2, hub⟩ := nears_head (B := besM h goal) bes_sym Dn hv rfl
          have enr : ((List.range (txts (besM h goal v)).length).filter fun i => decide (distOf L ((besM h goal v).getD i []) = n3)).map (fun i => PyData.str (txt ((besM h goal v).getD i []))) = txts (nears (besM h goal) L n3 v) := by
            have el : (txts (besM h goal v)).length = (besM h goal v).length := List.length_map _
            rw [el]
            exact filter_at (besM h goal v) (fun u => decide (distOf L u = n3)) (fun u => PyData.str (txt u))
          refine rss_set (d := .str (txt u)) 1 (ed_ixL 0 (EN.er (ENc.en (ENc.to (lc_Lf (own := [("later", 7)]) (ds := txts (besM h goal v)) (k := fun i => decide (distOf L ((besM h goal v).getD i []) = n3)) (out := fun i => PyData.str (txt ((besM h goal v).getD i []))) 7 (en_call K5 (as_d (vd 0) (as_d (vd 1) (as_d (vd 3) as_0))) ⟨h, v, goal, rfl, h1, h6, Kv.1, by rw [Kv.2.1]; omega, rfl⟩)
            ?_ (blkOk_by (N := nLed) (sc := defScope sLed) (by decide +kernel)) ?_ ?_) enr))) ed_int rfl (by rw [er]; rfl)) fun σ H8 G => ?_
          · unfold txts
            rw [List.length_map]
            have := besM_len h goal v
            have : v.length = o.length := Kv.2.1
            exact small _ (by omega)
          · intro s0 H0 C cl fp i d σ' H' hd G
            obtain ⟨x, hx, rfl⟩ := txts_at hd
            have exx : (besM h goal v).getD i [] = x := getD_of hx
            have hxm := Dn.clos _ hv x (List.mem_of_getElem? hx)
            refine ET.to (et_eqI (X := Cx.blk _ _ _ _ _ _) hu (ed_dget (X := Cx.blk _ _ _ _ _ _) hu (vc 4) (vd 7) (far_get hxm)) (ed_sub (ed_dget (X := Cx.blk _ _ _ _ _ _) (d := .int ((n3 + 1 : Nat) : Int)) hu (vc 4) (vd 1) (by rw [far_get (List.mem_map.mpr ⟨_, hv, rfl⟩), dist_at Dn.nd hv])) ed_int)) ?_
            rw [exx]
            exact decide_eq_decide.mpr (by omega)
          · intro s0 H0 C cl fp i d σ' H' hd G
            obtain ⟨x, hx, rfl⟩ := txts_at hd
            have exx : (besM h goal v).getD i [] = x := getD_of hx
            rw [exx]
            exact vd 7
          · refine rss_app 8 rfl (vd 1) ?_ fun H9 G => ?_
            · unfold txts
              rw [List.length_map]
              exact smallL _ (by omega)
            refine rss_nil ⟨n3, _, by omega, ⟨u, acc ++ [u], hu2, ?_, by rw [List.length_append, List.length_singleton]; omega, rfl⟩, ?_⟩
            · rw [← hpath, pathM, er, List.append_assoc]
              rfl
            · have e : txts acc ++ [.str (txt u)] = txts (acc ++ [u]) := by
                unfold txts
                rw [List.map_append]
                rfl
              rw [← e]
              exact G.wk
        · have heq2 : v = o := by
            have hk : decide (txt v = txt o) = true := by simpa using hk
            exact txt_inj (of_decide_eq_true hk)
          have n0 : n2 = 0 := hz.mpr heq2
          subst n0
          have ep : acc = pathM (besM h goal) L (distOf L w) w := by
            rw [← hpath, pathM, List.append_nil]
          rw [← ep]
          have sB4 := Same.trans sB1 sB3
          exact rss_retL 8 rfl
end Dw
namespace Dw
open PySem PySem.Spec PyProof.Rows L2
abbrev sLCut : Stmt := topS 67
abbrev sLCard : Stmt := topS 68
section
variable {X : Cx} {B B0 H : Hp} {σ : L2.St} {Γ : List Sl} {pos p p1 p2 : Pos} {ds : List PyData} {x y : Str} {rest : List Stmt} {D : Ends}
/-- name = name of a list of the frame's own: it goes over -/
theorem rss_move (n m : Nat) (hΓ : Γ[m]? = some (.lst ds)) (hnm : n ≠ m) (k : ∀ σ' H', Good B H' σ' ((Γ.set m .un).set n (.lst ds)) → RSs X rest D σ' H') (G : Good B H σ Γ := by assumption)
    (nd : X.N.Nodup := by assumption) (hi : X.N[n]? = some x := by rfl) (hj : X.N[m]? = some y := by rfl) (hx : Loc X.env.scope x := by first | exact Or.inl rfl | exact Or.inr rfl) (hv : Vis X.env.scope y := by first | exact Or.inl rfl | exact Or.inr (Or.inl rfl) | exact Or.inr (Or.inr rfl)) (hsw : swapsWith (.Name y p2) (some (.Name x p)) pos.line X.env = pure false := by rfl)
    (hf : X.fn x = true ∨ X.env.scope.names.lookup x = some .local := by first | exact .inl rfl | exact .inr rfl) (hd : (y == ("__debug__" : Str)) = false := by decide) (hcd : (y == ("__classdict__" : Str)) = false := by decide) : RSs X (.Assign [.Name x p] (.Name y p2) pos :: rest) D σ H := by
  obtain ⟨l, vs, e1, e2, e3, q⟩ := G.lst hΓ
  refine rss_cons (RS.of (ps_set nd hi hx (pe_var hj hv hd hcd) hsw hf) ⟨_, e1, ?_⟩)
  refine k _ _ ⟨G.same, by simp [G.len], fun i sl o h1 h2 => ?_, fun i j si sj a hij h1 h2 o1 o2 q1 q2 => ?_⟩
  · rcases get_set h1 with ⟨rfl, rfl, _⟩ | ⟨n1, h1⟩
    · rcases get_set h2 with ⟨_, rfl, _⟩ | ⟨n2, _⟩
      · exact ⟨l, vs, rfl, e2, e3, q⟩
      · exact absurd rfl n2
    · have h2 := (get_set h2).elim (fun z => absurd z.1 n1) fun z => z.2
      rcases get_set h1 with ⟨rfl, rfl, _⟩ | ⟨n2, h1⟩
      · trivial
      · exact G.at_ i sl o h1 h2
  · have low : ∀ {i : Nat} {si : Sl}, ((Γ.set m .un).set n (.lst ds))[i]? = some si → si.own = true → (σ.set n (some (.ref l)))[i]? = some (some (.ref a)) → (i = n ∧ a = l) ∨ (i ≠ n ∧ i ≠ m ∧ Γ[i]? = some si ∧ σ[i]? = some (some (.ref a))) := fun {i si} h1 o1 q1 => by
      by_cases c : i = n
      · refine .inl ⟨c, ?_⟩
        rcases get_set q1 with ⟨_, e, _⟩ | ⟨z, _⟩
        · injection e with e
          injection e
        · exact absurd c z
      · have q1 := (get_set q1).elim (fun z => absurd z.1 c) fun z => z.2
        have h1 := (get_set h1).elim (fun z => absurd z.1 c) fun z => z.2
        rcases get_set h1 with ⟨_, rfl, _⟩ | ⟨z, h1⟩
        · cases o1
        · exact .inr ⟨c, z, h1, q1⟩
    rcases low h1 o1 q1 with ⟨c1, a1⟩ | ⟨c1, d1, g1, w1⟩
    · rcases low h2 o2 q2 with ⟨c2, a2⟩ | ⟨c2, d2, g2, w2⟩
      · exact hij (c1.trans c2.symm)
      · rw [a1] at w2
        exact G.apart m j _ sj l (Ne.symm d2) hΓ g2 rfl o2 e1 w2
    · rcases low h2 o2 q2 with ⟨c2, a2⟩ | ⟨c2, d2, g2, w2⟩
      · rw [a2] at w1
        exact G.apart m i _ si l (Ne.symm d1) hΓ g1 rfl o1 e1 w1
      · exact G.apart i j si sj a hij g1 g2 o1 o2 w1 w2
end
/-! ### the law's own card -/
def isD (w : List Nat) (k door : Nat) : Int := if w.getD k 0 + 1 = door then 1 else 0
def c0 (w : List Nat) (f : Nat) : Nat → Int
  | 0 => 0
  | k + 1 => c0 w f k + isD w k f
def bM (w : List Nat) (g : Nat → Int) (door : Nat) : Nat → Int
  | 0 => g 0
  | k + 1 => min (bM w g door k + isD w k door) (g (k + 1))
def cutF (w : List Nat) (f : Nat) : Nat → Nat → Int
  | 0 => c0 w f
  | j + 1 => bM w (cutF w f j) (f + 1 + j)
theorem isD_pos (w : List Nat) (k d : Nat) : 0 ≤ isD w k d ∧ isD w k d ≤ 1 := by
  unfold isD
  split <;> omega
theorem c0_b (w : List Nat) (f : Nat) : ∀ k, 0 ≤ c0 w f k ∧ c0 w f k ≤ k
  | 0 => by simp [c0]
  | k + 1 => by
    have := c0_b w f k
    have := isD_pos w k f
    rw [c0]
    omega
theorem bM_b {w : List Nat} {g : Nat → Int} {d : Nat} (hg : ∀ k, 0 ≤ g k ∧ g k ≤ k) : ∀ k, 0 ≤ bM w g d k ∧ bM w g d k ≤ k
  | 0 => hg 0
  | k + 1 => by
    have := bM_b (w := w) (d := d) hg k
    have := isD_pos w k d
    have := hg (k + 1)
    rw [bM]
    omega
theorem cutF_b (w : List Nat) (f : Nat) : ∀ j k, 0 ≤ cutF w f j k ∧ cutF w f j k ≤ k
  | 0 => c0_b w f
  | j + 1 => bM_b (cutF_b w f j)
def lawCard (h : Nat) (w : List Nat) : Card := (List.range h).map fun i => (List.range (h - i)).map fun j => cutF w (i + 1) j w.length
theorem lawCard_shape (h : Nat) (w : List Nat) : Shape h (lawCard h w) := ⟨by simp [lawCard], fun i hi => by rw [lawCard, getD_rangeMap hi, List.length_map, List.length_range]⟩
theorem lawCard_low {h : Nat} {w : List Nat} (hw : w.length ≤ 8) : Low (lawCard h w) := fun r hr x hx => by
  obtain ⟨i, _, rfl⟩ := List.mem_map.mp hr
  obtain ⟨j, _, rfl⟩ := List.mem_map.mp hx
  have := cutF_b w (i + 1) j w.length
  omega
theorem intT_sign : ∀ d : Nat, 1 ≤ d → d ≤ 6 → ((toString (d : Int) : String) : Str) = ⟨#[d + 48]⟩ := by
  intro d h1 h2
  have : d = 1 ∨ d = 2 ∨ d = 3 ∨ d = 4 ∨ d = 5 ∨ d = 6 := by omega
  rcases this with rfl | rfl | rfl | rfl | rfl | rfl <;> decide +kernel
theorem log_sign : ∀ d : Nat, d ≤ 6 → (d : Int).natAbs.log2 < 1920 := by
  intro d h2
  exact log_low (by omega)
theorem sign_eq {a d : Nat} (hd : 1 ≤ d) : ((⟨#[a + 49]⟩ : Str) = ⟨#[d + 48]⟩) ↔ a + 1 = d := by
  constructor
  · intro z
    injection z with z
    injection z with z
    injection z with z
    omega
  · intro z
    have : a + 49 = d + 48 := by omega
    rw [this]
abbrev nLCut : List Str := ["_law_work", "_law_first", "_law_last", "_law_least", "_law_k", "_law_door", "_law_best", "_law_rows"]
theorem scLCut : FnScope nLCut ["_law_work", "_law_first", "_law_last"] (defScope sLCut) := ⟨rfl, rfl, rfl, by decide +kernel, rfl, by decide +kernel, by decide +kernel⟩
def φLCut (ss : List Sl) (r : Sl) : Prop := ∃ (w : List Nat) (f j : Nat), ss = [.dat (.str (txt w)), .dat (.int (f : Nat)), .dat (.int ((f + j : Nat) : Int))] ∧ Word 6 w ∧ w.length ≤ 8 ∧ 1 ≤ f ∧ f + j ≤ 6 ∧ r = .dat (.int (cutF w f j w.length))
abbrev KLCut (m : Md) := Kn m "_law_cut" ["_law_work", "_law_first", "_law_last"] 1 φLCut
def nums (g : Nat → Int) (n : Nat) : List PyData := ((List.range n).map g).map PyData.int
theorem nums_len (g : Nat → Int) (n : Nat) : (nums g n).length = n := by unfold nums; simp
theorem nums_succ (g : Nat → Int) (n : Nat) : nums g (n + 1) = nums g n ++ [.int (g n)] := by
  unfold nums
  rw [take_succ_map, List.map_append]
  rfl
theorem nums_at {g : Nat → Int} {n k : Nat} (h : k < n) : (nums g n)[k]? = some (.int (g k)) := by
  unfold nums
  rw [List.getElem?_map, List.getElem?_map, List.getElem?_range h]
  rfl
def prevD (g : Nat → Int) : Nat → PyData
  | 0 => .none
  | k + 1 => .int (g k)
theorem kn_lcut {m : Md} (T : Tx m) (F : Df m "_law_cut" sLCut ["_law_work", "_law_first", "_law_last"]) : KLCut m := by
  refine knS F scLCut (fun ss r ⟨_, _, _, e, _⟩ => by rw [e]; rfl) fun f rt ss r H σ hφ hr nd G => ?_
  obtain ⟨w, fst, j0, rfl, W, hw, f1, f6, rfl⟩ := hφ
  have hu := hr.units
  refine rss_setN 3 (ds := nums (c0 w fst) 1) (en_lst (ds := [.int 0]) (ea_d ed_int ea_0)) fun σ H G => ?_
  refine rss_forR1 4 (lenT (by rfl) T.len (vd 0) (small _ (by omega))) (by omega) (by omega) (fun i Γ => Γ = [.dat (.str (txt w)), .dat (.int (fst : Nat)), .dat (.int ((fst + j0 : Nat) : Int)), .lst (nums (c0 w fst) (i + 1)), .un, .un, .un, .un]) rfl (fun B' sB i Γ σ H hi j G => ?_) (fun B' sB Γ σ H j G => ?_) (by rfl) T.range
  · subst j
    rw [Int.toNat_natCast] at hi
    refine rss_app (d := .int (c0 w fst (i + 1))) 3 rfl (ED.to (ed_add (ed_ixM1 (ER.to (vl 3) (nums_succ _ _)) (ed_neg ed_int)) (ed_intB (by rfl) T.int (ed_eqS (ed_ixS (n := w.getD i 0 + 49) i (vd 0) (vd 4) rfl (by rw [txt_list, List.getElem?_map, getElem?_D (d := 0) hi]; rfl) (by rw [txt_len]; exact small _ (by omega))) (ed_strI (by rfl) T.str (vd 1) (log_sign _ (by omega)))))) ?_) ?_ fun H G => ?_
    · rw [c0, isD, intT_sign fst f1 (by omega)]
      congr 2
      by_cases c : w.getD i 0 + 1 = fst
      · rw [decide_eq_true ((sign_eq f1).mpr c), if_pos rfl, if_pos c]
      · rw [decide_eq_false (fun z => c ((sign_eq f1).mp z)), if_neg Bool.false_ne_true, if_neg c]
    · rw [nums_len]
      exact smallL _ (by omega)
    refine rss_nil ⟨_, rfl, ?_⟩
    rw [nums_succ (c0 w fst) (i + 1)]
    exact G.wk
  · subst j
    rw [Int.toNat_natCast] at G
    have em : (((fst + j0 : Nat) : Int) + 1 - ((fst : Nat) + 1)).toNat = j0 := by omega
    refine rss_forR2 5 (ed_add (vd 1) ed_int) (ed_add (vd 2) ed_int) ⟨by omega, by omega, by omega, by omega⟩ (fun j Γ => Γ = [.dat (.str (txt w)), .dat (.int (fst : Nat)), .dat (.int ((fst + j0 : Nat) : Int)), .lst (nums (cutF w fst j) (w.length + 1)), .un, .un, .un, .un]) rfl (fun B2 sB2 j Γ σ H hj jj G => ?_) (fun B2 sB2 Γ σ H jj G => ?_) (by rfl) T.range
    · subst jj
      rw [em] at hj
      have ed : (((fst : Nat) : Int) + 1) + (j : Int) = ((fst + 1 + j : Nat) : Int) := by omega
      rw [ed] at G
      refine rss_par 6 7 (pD ed_non) (pN en_nil) fun σ H G => ?_
      refine rss_forR1 (m := ((w.length + 1 : Nat) : Int)) 4 (ED.to (ed_add (lenT (by rfl) T.len (vd 0) (small _ (by omega))) ed_int) (by congr 1)) (by omega) (by omega) (fun k Γ => Γ = [.dat (.str (txt w)), .dat (.int (fst : Nat)), .dat (.int ((fst + j0 : Nat) : Int)), .lst (nums (cutF w fst j) (w.length + 1)), .un, .dat (.int ((fst + 1 + j : Nat) : Int)), .dat (prevD (cutF w fst (j + 1)) k), .lst (nums (cutF w fst (j + 1)) k)]) rfl (fun B3 sB3 k Γ σ H hk jj G => ?_) (fun B3 sB3 Γ σ H jj G => ?_) (by rfl) T.range
      · subst jj
        rw [Int.toNat_natCast] at hk
        have hdoor : 1 ≤ fst + 1 + j ∧ fst + 1 + j ≤ 6 := by omega
        refine rss_ifJ (fun Γ => Γ = [.dat (.str (txt w)), .dat (.int (fst : Nat)), .dat (.int ((fst + j0 : Nat) : Int)), .lst (nums (cutF w fst j) (w.length + 1)), .dat (.int (k : Nat)), .dat (.int ((fst + 1 + j : Nat) : Int)), .dat (match k with | 0 => .none | k' + 1 => .int (cutF w fst (j + 1) k' + isD w k' (fst + 1 + j))), .lst (nums (cutF w fst (j + 1)) k)])
          (et_and (m := decide ((⟨#[w.getD (k - 1) 0 + 49]⟩ : Str) = ⟨#[fst + 1 + j + 48]⟩)) (et_gt (vd 4) ed_int) fun z => ET.to (et_eqS (ed_ixS (n := w.getD (k - 1) 0 + 49) (k - 1) (vd 0) (ed_sub (vd 4) ed_int) (by have := of_decide_eq_true z; omega) (by have := of_decide_eq_true z; rw [txt_list, List.getElem?_map, getElem?_D (d := 0) (show k - 1 < w.length by omega)]; rfl) (by rw [txt_len]; exact small _ (by omega))) (ed_strI (by rfl) T.str (vd 5) (log_sign _ (by omega)))) (by rw [intT_sign _ hdoor.1 hdoor.2])) (fun H G hk2 => ?_) (fun H G hk2 => ?_) fun Γ σ H jj G => ?_
        · rw [Bool.and_eq_true] at hk2
          have hk0 := of_decide_eq_true hk2.1
          obtain ⟨k', rfl⟩ : ∃ k', k = k' + 1 := ⟨k - 1, by omega⟩
          have hs := (sign_eq hdoor.1).mp (of_decide_eq_true hk2.2)
          rw [Nat.add_sub_cancel] at hs
          refine rss_set 6 (ed_add (vd 6) ed_int) fun σ H G => ?_
          refine rss_nil ⟨_, rfl, ?_⟩
          have e : isD w k' (fst + 1 + j) = 1 := if_pos hs
          show Good _ _ _ [_, _, _, _, _, _, .dat (.int (cutF w fst (j + 1) k' + isD w k' (fst + 1 + j))), _]
          rw [e]
          exact G.wk
        · refine rss_nil ⟨_, rfl, ?_⟩
          cases k with
          | zero => exact G.wk
          | succ k' =>
            have hne : ¬ (w.getD k' 0 + 1 = fst + 1 + j) := fun z => by
              rw [Nat.add_sub_cancel, decide_eq_true ((sign_eq hdoor.1).mpr z), decide_eq_true (by omega)] at hk2
              cases hk2
            have e : isD w k' (fst + 1 + j) = 0 := if_neg hne
            show Good _ _ _ [_, _, _, _, _, _, .dat (.int (cutF w fst (j + 1) k' + isD w k' (fst + 1 + j))), _]
            rw [e, Int.add_zero]
            exact G.wk
        · subst jj
          refine rss_set (d := .int (cutF w fst (j + 1) k)) 6 ?_ fun σ H G => ?_
          · cases k with
            | zero => exact (ed_if (d1 := .int (cutF w fst j 0)) (d2 := .none) (et_isN (vd 6)) (fun _ => ed_ixL 0 (vl 3) (vd 4) rfl (nums_at (by omega))) (fun z => by cases z)).to rfl
            | succ k' => exact (ed_if (d1 := .none) (d2 := .int (min (cutF w fst (j + 1) k' + isD w k' (fst + 1 + j)) (cutF w fst j (k' + 1)))) (et_isN (vd 6)) (fun z => by cases z) (fun _ => ed_min2 rfl (by rfl) T.min (vd 6) (ed_ixL (k' + 1) (vl 3) (vd 4) rfl (nums_at (by omega))))).to rfl
          · refine rss_app 7 rfl (vd 6) ?_ fun H G => ?_
            · rw [nums_len]
              exact smallL _ (by omega)
            refine rss_nil ⟨_, rfl, ?_⟩
            rw [nums_succ (cutF w fst (j + 1)) k]
            exact G.wk
      · subst jj
        rw [Int.toNat_natCast] at G
        refine rss_move 3 7 rfl (by decide) fun σ H G => ?_
        exact rss_nil ⟨_, rfl, (G.less sB3).wk⟩
    · subst jj
      rw [em] at G
      have sB4 := Same.trans sB sB2
      refine rss_retD (ed_ixM1 (ER.to (vl 3) (nums_succ _ _)) (ed_neg ed_int))
theorem scLCard : FnScope ["_law_halls", "_law_work", "_law_found", "_law_first", "_law_last"] ["_law_halls", "_law_work"] (defScope sLCard) := ⟨rfl, rfl, rfl, by decide +kernel, rfl, by decide +kernel, by decide +kernel⟩
abbrev KLCard (m : Md) := Kn m "_law_card" ["_law_halls", "_law_work"] 2 (φHW fun h w => cardD (lawCard h w))
theorem kn_lcard {m : Md} (T : Tx m) (K1 : KLCut m) (F : Df m "_law_card" sLCard ["_law_halls", "_law_work"]) : KLCard m := by
  refine knS F scLCard (fun ss r ⟨_, _, e, _⟩ => by rw [e]; rfl) fun f rt ss r H σ hφ hr nd G => ?_
  obtain ⟨h, w, rfl, h1, h6, W, hw, rfl⟩ := hφ
  have em : (((h : Nat) : Int) + 1 - 1).toNat = h := by omega
  refine rss_setN 2 en_nil fun σ H G => ?_
  refine rss_forR2 3 ed_int (ed_add (vd 0) ed_int) ⟨by omega, by omega, by omega, by omega⟩ (fun i Γ => Γ = [.dat (.int h), .dat (.str (txt w)), .lst (((List.range i).map fun i => (List.range (h - i)).map fun j => cutF w (i + 1) j w.length).map rowD), .un, .un]) rfl (fun B' sB i Γ σ H hi j G => ?_) (fun B' sB Γ σ H j G => ?_) (by rfl) T.range
  · subst j
    rw [em] at hi
    have e1 : (1 : Int) + (i : Int) = ((i + 1 : Nat) : Int) := by omega
    rw [e1] at G
    have em2 : (((h : Nat) : Int) + 1 - ((i + 1 : Nat) : Int)).toNat = h - i := by omega
    refine rss_app (d := rowD ((List.range (h - i)).map fun j => cutF w (i + 1) j w.length)) 2 rfl (ED.to (ed_tupleL (by rfl) T.tuple (EN.er (ENc.en (lc_R2 (own := [("_law_last", 4)]) (l := ((i + 1 : Nat) : Int)) (m := ((h : Nat) : Int) + 1) (out := fun j => .int (cutF w (i + 1) j w.length)) 4 (vd 3) (ed_add (vd 0) ed_int) ⟨by omega, by omega, by omega, by omega⟩ (small _ (by omega)) (blkOk_by (N := ["_law_halls", "_law_work", "_law_found", "_law_first", "_law_last"]) (sc := defScope sLCard) (by decide +kernel)) ?_ T.range)))) ?_) ?_ fun H G => ?_
    · intro s0 H0 C cl fp j σ' H' hj G
      rw [em2] at hj
      have e2 : ((i + 1 : Nat) : Int) + (j : Int) = ((i + 1 + j : Nat) : Int) := by omega
      rw [e2] at G
      exact ed_call (X := Cx.blk _ _ _ _ _ _) K1 (as_d (vd 1) (as_d (vd 3) (as_d (vd 4) as_0))) ⟨w, i + 1, j, rfl, W.up h6, hw, by omega, by omega, rfl⟩
    · rw [em2]
      unfold rowD
      rw [List.map_map]
      rfl
    · rw [List.length_map, List.length_map, List.length_range]
      exact smallL _ (by omega)
    refine rss_nil ⟨_, rfl, ?_⟩
    rw [take_succ_map, List.map_append]
    exact G.wk
  · subst j
    rw [em] at G
    exact rss_retD (ed_tupleL (by rfl) T.tuple (vl 2))
end Dw
/-! Dw: the dice -/
namespace Dw
open PySem PySem.Spec PyProof.Rows L2
abbrev sDice : Stmt := topS 62
abbrev sNext : Stmt := topS 63
theorem sq_mono {K : PySem.W.Frag} {H H' : Hp} {a : Addr} {xs : List V} (h : SqL K H a xs) (s : Same H H') : SqL K H' a xs := by
  rcases h with (h | ⟨o, h⟩) | h
  · exact .inl (.inl (s _ _ h))
  · exact .inl (.inr ⟨o, s _ _ h⟩)
  · exact .inr h
theorem sq_rm {K : PySem.W.Frag} {H : Hp} {a d : Addr} {xs : List V} (h : SqL K H a xs) (n : H d = none) (H' : Hp) (s : Same H H') : SqL K (rm H' d) a xs := by
  have go : ∀ o, H a = some o → rm H' d a = some o := fun o e => by
    rw [rm_ne (ne_of_none e n)]
    exact s _ _ e
  rcases h with (h | ⟨o, h⟩) | h
  · exact .inl (.inl (go _ h))
  · exact .inl (.inr ⟨o, go _ h⟩)
  · exact .inr h
/-- the dice -/
structure DiceAt (K : PySem.W.Frag) (H : Hp) (d a : Addr) (ns : List Int) : Prop where
  scr : SqL K (rm H d) a (ns.map V.int)
  at_ : ∃ (i : Nat) (m c : Int), H d = some (.lst [.ref a, .int (i : Nat), .int m, .int c])
theorem DiceAt.mono {K : PySem.W.Frag} {H H' : Hp} {d a : Addr} {ns : List Int} (h : DiceAt K H d a ns) (s : Same H H') : DiceAt K H' d a ns := ⟨sq_mono h.scr (same_rm s), let ⟨i, m, c, e⟩ := h.at_; ⟨i, m, c, s _ _ e⟩⟩
section
variable {X : Cx} {B B0 H : Hp} {σ : L2.St} {Γ : List Sl} {a b c e o value iter : Expr} {pos pos' p p1 p2 p3 tpos apos : Pos} {x y z f : Str} {rest body orelse : List Stmt} {D : Ends} {Q : VK} {R : VR} {d s : Addr} {vs : List V} {v : V} {i : Int} {ns : List Int}
/-- a place of a list -/
theorem ex_ixV (k : Nat) (ho : EX X o σ H (.ref d)) (hb : ED X b σ H (.int i)) (hd : H d = some (.lst vs)) (hi : i = (k : Int)) (hv : vs[k]? = some v) (hs : PlainIx b := by exact fun _ _ => rfl) : EX X (.Subscript o b pos) σ H v :=
  ev_pe (pe_ix ix_list re_pe re_pe hs) fun H1 s1 Q q => ho H1 s1 _ fun x H2 s2 hx => hb H2 (s1.trans s2) _ fun y H3 s3 hy => ⟨d, vs, i, v, hx, Im.ofInt hy, SqL.of (((s1.trans s2).trans s3) _ _ hd), atI_of hi hv, q v H3 (s2.trans s3) rfl⟩
theorem ed_ixV (k : Nat) {n : Int} (ho : EX X o σ H (.ref d)) (hb : ED X b σ H (.int i)) (hd : H d = some (.lst vs)) (hi : i = (k : Int)) (hv : vs[k]? = some (.int n)) (hs : PlainIx b := by exact fun _ _ => rfl) : ED X (.Subscript o b pos) σ H (.int n) := EX.ed (ex_ixV k ho hb hd hi hv hs) (im_int n)
/-- a place of the script -/
theorem ed_ixSq (k : Nat) (ho : EX X o σ H (.ref s)) (hb : ED X b σ H (.int i)) (hd : SqL X.K H s (ns.map V.int)) (hi : i = (k : Int)) (hk : k < ns.length) (hs : PlainIx b := by exact fun _ _ => rfl) : ED X (.Subscript o b pos) σ H (.int (ns.getD k 0)) :=
  ev_pe (pe_ix ix_list re_pe re_pe hs) fun H1 s1 Q q => ho H1 s1 _ fun x H2 s2 hx => hb H2 (s1.trans s2) _ fun y H3 s3 hy => ⟨s, _, i, _, hx, Im.ofInt hy, sq_mono hd ((s1.trans s2).trans s3), atI_of hi (by rw [List.getElem?_map, getElem?_D (d := 0) hk]; rfl), q _ H3 (s2.trans s3) (im_int _)⟩
theorem ed_lenSq (hg : Gl X "len") (hm : X.mg "len" = none) (ho : EX X e σ H (.ref s)) (hd : SqL X.K H s (ns.map V.int)) (hst : starEach [e] X.env = (false, eval e X.env) :: starEach [] X.env := by rfl) (hpl : (backTo pos (starEach [] X.env)).any (·.1) = false := by rfl) : ED X (.Call (.Name "len" p) [e] [] pos) σ H (.int ns.length) :=
  ev_pe (pe_callB call_len_seq hg hm PySem.boot_len (pa_cons re_pe pa_nil hst) (by decide) (by decide) hst hpl) fun H1 s1 Q q => ho H1 s1 _ fun x H2 s2 hx => ⟨s, _, by rw [show x = .ref s from hx], .inl (sq_mono hd (s1.trans s2)), by rw [List.length_map]; exact q _ H2 s2 (im_int _)⟩
/-- name[k] = e, the list told as it stands -/
theorem rss_setV (k : Nat) (n : Nat) (hΓ : Γ[n]? = some (.raw (.ref d))) (he : EV X e σ H R) (hb : ED X b σ H (.int i)) (hi : i = (k : Int)) (hk : k < vs.length) (hd : H d = some (.lst vs)) (q : ∀ v H1 H2, Same H H1 → R H H1 v → Same H1 H2 → RSs X rest D σ (L2.upd H2 d (.lst (vs.set k v))))
    (G : Good B H σ Γ := by assumption) (hN : X.N[n]? = some x := by rfl) (hv : Vis X.env.scope x := by first | exact Or.inl rfl | exact Or.inr (Or.inl rfl) | exact Or.inr (Or.inr rfl)) (hdb : (x == ("__debug__" : Str)) = false := by decide) (hcd : (x == ("__classdict__" : Str)) = false := by decide)
    (ha : ∀ v, assign (.Subscript (.Name x p1) b p) X.env v = (do
      let ov ← holding [v] (eval (.Name x p1) X.env)
      let iv ← holding [v, ov] (eval b X.env)
      standAt p
      holding [v, ov, iv] (setItem ov iv v)
      release [v, ov, iv] []) := by intro _; rfl)
    (hs : swapsWithSole [.Subscript (.Name x p1) b p] e pos.line X.env = pure false := by rfl) (hw : swappedStores [.Subscript (.Name x p1) b p] e X.env = pure none := by rfl)
    (h1 : (assignEach [.Subscript (.Name x p1) b p] X.env).map (·.2) = [assign (.Subscript (.Name x p1) b p) X.env] := by rfl) : RSs X (.Assign [.Subscript (.Name x p1) b p] e pos :: rest) D σ H :=
  rss_cons (RS.of (ps_asg re_pe (pg_sub (pe_var hN hv hdb hcd) re_pe set_list ha) hs hw h1) (he H (Same.refl _) _ fun v H1 s1 r => ⟨_, G.raw hΓ, hb H1 s1 _ fun u H2 s2 hu => ⟨d, vs, i, k, rfl, Im.ofInt hu, (s1.trans s2) _ _ hd, ixN_of hi hk, q v H1 H2 s1 r s2⟩⟩))
end
theorem Good.lstW {H0 H H2 : Hp} {σ : L2.St} {Γ : List Sl} {a : Addr} {vs : List V} {o : HO} (G : Good (rm H0 a) H σ Γ) (s : Same H H2) (e : H a = some (.lst vs)) (h : Γ.all (fun sl => !sl.own) = true := by rfl) : Good (rm H0 a) (L2.upd H2 a o) σ Γ :=
  G.tk ((same_rm' (G.same.trans s)).trans rm_upd) ((Tk.of s).trans (Tk.upd fun ys z => by rw [s _ _ e] at z; cases z)) h
def spDice (K : PySem.W.Frag) : Sp := fun vs H Q _ => ∃ (a : Addr) (ns : List Int), vs = [.ref a] ∧ SqL K H a (ns.map V.int) ∧ ∀ H' d, Same H H' → H d = none → DiceAt K H' d a ns → Q (.ref d) H'
abbrev KDice (m : Md) := KnG m "_law_dice" ["_law_script"] 1 (spDice m.K)
theorem scDice : FnScope ["_law_script", "_law_mixed", "_law_cell"] ["_law_script"] (defScope sDice) := ⟨rfl, rfl, rfl, by decide +kernel, rfl, by decide +kernel, by decide +kernel⟩
theorem kn_dice {m : Md} (T : Tx m) (F : Df m "_law_dice" sDice ["_law_script"]) : KDice m := by
  obtain ⟨f, fd, h1, h2, h3⟩ := F.ex
  refine ⟨f, fd, ?_, h2, h1.kp, h3⟩
  refine h1.ok scDice (fun vs H Q E ⟨_, _, e, _⟩ => by rw [e]; rfl) fun cdv A outer s H vs Q E hr hsp => ?_
  obtain ⟨a, ns, rfl, hS, q⟩ := hsp
  have hr : Room 0 (cxD m ["_law_script", "_law_mixed", "_law_cell"] "_law_dice" sDice f ⟨cdv, A, outer, s, H, E⟩).A := hr
  have nd : (cxD m ["_law_script", "_law_mixed", "_law_cell"] "_law_dice" sDice f ⟨cdv, A, outer, s, H, E⟩).N.Nodup := scDice.nd
  refine ⟨RSs (cxD m ["_law_script", "_law_mixed", "_law_cell"] "_law_dice" sDice f ⟨cdv, A, outer, s, H, E⟩) (defBody sDice), rss_pss, ?_⟩
  have G : Good H H (L2.start ["_law_script", "_law_mixed", "_law_cell"] [V.ref a]) [.raw (.ref a), .un, .un] :=
    (start_good (N := ["_law_script", "_law_mixed", "_law_cell"]) (ss := [.raw (.ref a)]) (by show 1 ≤ 3; decide) (.cons ⟨rfl, rfl⟩ .nil))
  refine rss_set 1 ed_int fun σ H1 G => ?_
  refine rss_for (pi_list (pe_var (i := 0) rfl (Or.inl rfl) (by decide) (by decide))) (pg_name (i := 2) nd rfl (Or.inl rfl) (.inl rfl)) PassesOwn.never rfl ?_ (fun R R' k h => by
    obtain ⟨v, e, a', e2, q1, r⟩ := h
    exact ⟨v, e, a', e2, q1, k _ _ r⟩) (by intro _; rfl)
  have S1 := sq_mono hS G.same
  refine ⟨_, G.raw (i := 0) rfl, a, rfl, ⟨_, S1⟩, (ns.map V.int).length, _, _, fun i σ' H' => ∃ mx : Int, Good H H' σ' [.raw (.ref a), .dat (.int mx), .un], walk_list, ⟨0, G.wk⟩, fun i σ' H' _ ⟨mx, g⟩ => sq_mono hS g.same, fun i x σ' H' H'' hi ⟨mx, g⟩ ⟨eH, ex⟩ => ?_, fun σ' H' ⟨mx, g⟩ => ?_⟩
  · subst eH
    obtain ⟨n, hn, rfl⟩ : ∃ n : Int, True ∧ x = .int n := by
      rw [List.getElem?_map] at ex
      obtain ⟨n, _, e⟩ := Option.map_eq_some_iff.mp ex
      exact ⟨n, trivial, e.symm⟩
    have g2 := g.setD 2 (im_int n)
    refine rss_set 1 (ed_mod (ed_add (ed_add (ed_mul (vd 1) ed_int (.inr ⟨by decide, by decide⟩)) (ed_mul (ed_mod (vd 2) ed_int (by decide)) ed_int (.inr ⟨by decide, by decide⟩))) ed_int) ed_int (by decide)) (fun σ H2 G2 => ?_) g2
    exact rss_nil ⟨_, G2.wk⟩
  · refine rss_cons (RS.of (ps_ret re_pe) ?_)
    have S2 := sq_mono hS g.same
    refine RE.of (pe_lst (pa_cons (pe_var (i := 0) rfl (Or.inl rfl) (by decide) (by decide)) (pa_cons re_pe (pa_cons re_pe (pa_cons re_pe pa_nil (by rfl)) (by rfl)) (by rfl)) (by rfl))) ?_
    refine ⟨_, g.raw (i := 0) rfl, ?_⟩
    refine ed_int _ (Same.refl _) _ fun v1 H3 s3 r1 => ?_
    refine (ed_mul (vd 1 (G := g.mono s3)) (ed_intB (by rfl) T.int (ed_gt (ed_lenSq (by rfl) T.len (vx 0 (G := g.mono s3)) (sq_mono S2 s3)) ed_int)) (.inr ?_)) _ (Same.refl _) _ fun v2 H4 s4 r2 => ?_
    · split <;> exact ⟨by decide, by decide⟩
    refine ed_int _ (Same.refl _) _ fun v3 H5 s5 r3 => ?_
    refine ⟨by show 4 ≤ 16777216; decide, fun d hd => ?_⟩
    have s35 := (s3.trans s4).trans s5
    have hdn := (g.same.trans s35).free hd
    have r1 : v1 = .int 0 := Im.ofInt r1
    have r3 : v3 = .int 0 := Im.ofInt r3
    rw [show v2 = _ from Im.ofInt r2, r1, r3]
    exact q _ d ((g.same.trans s35).trans (Same.new hd)) hdn ⟨sq_rm hS hdn _ ((g.same.trans s35).trans (Same.new hd)), 0, _, 0, upd_same⟩
end Dw
/-! Dw: _law_next -/
namespace Dw
open PySem PySem.Spec PyProof.Rows L2
def spNext (K : PySem.W.Frag) : Sp := fun vs H Q _ => ∃ (d a : Addr) (ns : List Int) (many : Nat), vs = [.ref d, .int (many : Nat)] ∧ 1 ≤ many ∧ many ≤ 100 ∧ DiceAt K H d a ns ∧ ∀ H' (x : Nat), Same (rm H d) H' → DiceAt K H' d a ns → x < many → Q (.int (x : Nat)) H'
abbrev KNext (m : Md) := KnG m "_law_next" ["_law_dice_here", "_law_many"] 1 (spNext m.K)
abbrev nNext : List Str := ["_law_dice_here", "_law_many", "_law_found", "_law_cell"]
theorem scNext : FnScope nNext ["_law_dice_here", "_law_many"] (defScope sNext) := ⟨rfl, rfl, rfl, by decide +kernel, rfl, by decide +kernel, by decide +kernel⟩
theorem mod_nat {c : Int} {many : Nat} (h : 1 ≤ many) : ∃ x : Nat, x < many ∧ c % (many : Int) = (x : Int) := by
  have h1 := Int.emod_nonneg c (show (many : Int) ≠ 0 by omega)
  have h2 := Int.emod_lt_of_pos c (show (0 : Int) < many by omega)
  exact ⟨(c % (many : Int)).toNat, by omega, by omega⟩
theorem kn_next {m : Md} (T : Tx m) (F : Df m "_law_next" sNext ["_law_dice_here", "_law_many"]) : KNext m := by
  obtain ⟨f, fd, h1, h2, h3⟩ := F.ex
  refine ⟨f, fd, ?_, h2, h1.kp, h3⟩
  refine h1.ok scNext (fun vs H Q E ⟨_, _, _, _, e, _⟩ => by rw [e]; rfl) fun cdv A outer s H vs Q E hr hsp => ?_
  obtain ⟨d, a, ns, many, rfl, m1, m2, DA, q⟩ := hsp
  have hr : Room 0 (cxD m nNext "_law_next" sNext f ⟨cdv, A, outer, s, H, E⟩).A := hr
  have nd : (cxD m nNext "_law_next" sNext f ⟨cdv, A, outer, s, H, E⟩).N.Nodup := scNext.nd
  refine ⟨RSs (cxD m nNext "_law_next" sNext f ⟨cdv, A, outer, s, H, E⟩) (defBody sNext), rss_pss, ?_⟩
  have G : Good (rm H d) H (L2.start nNext [V.ref d, .int (many : Nat)]) [.raw (.ref d), .dat (.int (many : Nat)), .un, .un] :=
    (start_good (N := nNext) (ss := [.raw (.ref d), .dat (.int (many : Nat))]) (by show 2 ≤ 4; decide) (.cons ⟨rfl, rfl⟩ (.cons ⟨rfl, _, rfl, im_int _⟩ .nil))).less rm_le
  obtain ⟨S, i, mx, c, e0⟩ := DA
  have SH : ∀ {H' : Hp}, Same (rm H d) H' → SqL m.K (rm H' d) a (ns.map V.int) := fun z => sq_mono S (same_rm' z)
  have fin : ∀ {H' : Hp} {v : V} {y : Int} {i' : Nat} {m' c' : Int}, Same (rm H d) H' → H' d = some (.lst [.ref a, .int (i' : Nat), .int m', .int c']) → Im H' (.int (y % (many : Int))) v → Q v H' := fun {H' v y i' m' c'} z e iv => by
    obtain ⟨x, hx, ex⟩ := mod_nat (c := y) m1
    rw [Im.ofInt iv, ex]
    exact q H' x z ⟨SH z, i', m', c', e⟩ hx
  have hmp : (0 : Int) < (many : Int) := by omega
  have hmd : CDiv 0 (many : Int) := ⟨hmp, by omega⟩
  refine rss_ifP (fun σ' H' => σ' = L2.start nNext [V.ref d, .int (many : Nat)] ∧ Same H H') (et_gt (ed_ixV 3 (vx 0) ed_int e0 rfl rfl) ed_int) (fun H1 s1 hk => ?_) (fun H1 s1 hk => rss_nil ⟨rfl, s1⟩) fun σ' H1 p => ?_
  · have G1 := (G.mono s1).here
    have e1 := s1 _ _ e0
    refine rss_set 2 (ed_mod (ed_ixV 3 (vx 0) ed_int e1 rfl rfl) (vd 1) hmp) (fun σ2 H2 G2 => ?_) G1
    have s2 : Same H1 H2 := G2.same
    have e2 := s2 _ _ e1
    have G2' := (G2.tk (B := H1) G2.same (Tk.refl _)).less (B := rm H d) (rm_le.trans s1)
    refine rss_setV (vs := [V.ref a, .int (i : Nat), .int mx, .int c]) 3 0 rfl (ed_fdiv (ed_ixV 3 (vx 0) ed_int e2 rfl rfl) (vd 1) ⟨hmp, by omega⟩) ed_int rfl (show 3 < 4 by decide) e2 (fun v H3 H4 s3 r3 s4 => ?_) G2'
    have G4 := G2'.lstW (o := .lst ([V.ref a, .int (i : Nat), .int mx, .int c].set 3 v)) (s3.trans s4) e2
    refine rss_ret (vd 2) fun u H5 s5 r5 => ?_
    have e5 := s5 _ _ (upd_same (H := H4) (a := d) (o := .lst ([V.ref a, .int (i : Nat), .int mx, .int c].set 3 v)))
    rw [show v = _ from Im.ofInt r3] at e5
    exact fin (G4.same.trans s5) e5 r5
  · obtain ⟨rfl, s1⟩ := p
    have G1 := G.mono s1
    have e1 := s1 _ _ e0
    refine rss_setV (vs := [V.ref a, .int (i : Nat), .int mx, .int c]) 1 0 rfl (ed_add (ed_ixV 1 (vx 0) ed_int e1 rfl rfl) ed_int) ed_int rfl (show 1 < 4 by decide) e1 (fun v H2 H3 s2 r2 s3 => ?_) G1
    have ev : v = .int ((i + 1 : Nat) : Int) := by rw [show v = _ from Im.ofInt r2]; congr 1
    subst ev
    have G3 := G1.lstW (o := .lst [V.ref a, .int ((i + 1 : Nat) : Int), .int mx, .int c]) (s2.trans s3) e1
    have e3 := upd_same (H := H3) (a := d) (o := .lst [V.ref a, .int ((i + 1 : Nat) : Int), .int mx, .int c])
    show RSs _ _ _ _ (L2.upd H3 d (.lst [V.ref a, .int ((i + 1 : Nat) : Int), .int mx, .int c]))
    generalize hH3 : L2.upd H3 d (.lst [V.ref a, .int ((i + 1 : Nat) : Int), .int mx, .int c]) = H4 at G3 e3
    have S4 : SqL m.K H4 a (ns.map V.int) := sq_mono (SH G3.same) rm_le
    refine rss_ifP (fun σ' H' => σ' = L2.start nNext [V.ref d, .int (many : Nat)] ∧ Same H4 H') (et_le (ed_ixV 1 (vx 0) ed_int e3 rfl rfl) (ed_lenSq (by rfl) T.len (ex_ixV 0 (vx 0) ed_int e3 rfl rfl) S4)) (fun H5 s5 hk => ?_) (fun H5 s5 hk => rss_nil ⟨rfl, s5⟩) fun σ' H5 p => ?_
    · have hk := of_decide_eq_true hk
      have G5 := (G3.mono s5).here
      have e5 := s5 _ _ e3
      refine rss_set 3 (ed_ixSq i (ex_ixV 0 (vx 0) ed_int e5 rfl rfl) (ed_sub (ed_ixV 1 (vx 0) ed_int e5 rfl rfl) ed_int) (sq_mono S4 s5) (by omega) (by omega)) (fun σ6 H6 G6 => ?_) G5
      have s6 : Same H5 H6 := G6.same
      have e6 := s6 _ _ e5
      have G6' := (G6.tk (B := H5) G6.same (Tk.refl _)).less (B := rm H d) (G3.same.trans s5)
      refine rss_setV (vs := [V.ref a, .int ((i + 1 : Nat) : Int), .int mx, .int c]) (R := rD (.int (if decide ((10 : Int) ^ (18 : Int).toNat ≤ ns.getD i 0) = true then ns.getD i 0 / (many : Int) else 0))) 3 0 rfl (ed_ifI (et_ge (vd 3) (ed_pow ed_int ed_int ⟨by decide, by decide, by decide⟩)) (fun _ => ed_fdiv (vd 3) (vd 1) ⟨hmp, by omega⟩) (fun _ => ed_int)) ed_int rfl (show 3 < 4 by decide) e6 (fun v H7 H8 s7 r7 s8 => ?_) G6'
      have G8 := G6'.lstW (o := .lst ([V.ref a, .int ((i + 1 : Nat) : Int), .int mx, .int c].set 3 v)) (s7.trans s8) e6
      refine rss_ret (ed_mod (vd 3) (vd 1) hmp) fun u H9 s9 r9 => ?_
      have e9 := s9 _ _ (upd_same (H := H8) (a := d) (o := .lst ([V.ref a, .int ((i + 1 : Nat) : Int), .int mx, .int c].set 3 v)))
      rw [show v = _ from Im.ofInt r7] at e9
      exact fin (G8.same.trans s9) e9 r9
    · obtain ⟨rfl, s5⟩ := p
      have G5 := G3.mono s5
      have e5 := s5 _ _ e3
      refine rss_setV (vs := [V.ref a, .int ((i + 1 : Nat) : Int), .int mx, .int c]) (R := rD (.int (mx * 48271 % 2147483647))) 2 0 rfl (ed_mod (ed_mul (ed_ixV 2 (vx 0) ed_int e5 rfl rfl) ed_int (.inr ⟨by decide, by decide⟩)) ed_int (by decide)) ed_int rfl (show 2 < 4 by decide) e5 (fun v H6 H7 s6 r6 s7 => ?_) G5
      have G7 := G5.lstW (o := .lst [V.ref a, .int ((i + 1 : Nat) : Int), v, .int c]) (s6.trans s7) e5
      rw [show v = _ from Im.ofInt r6] at G7 ⊢
      have e7 := upd_same (H := H7) (a := d) (o := .lst [V.ref a, .int ((i + 1 : Nat) : Int), .int (mx * 48271 % 2147483647), .int c])
      refine rss_ret (ed_mod (ed_fdiv (ed_ixV 2 (vx 0) ed_int e7 rfl rfl) ed_int ⟨by decide, by decide⟩) (vd 1) hmp) fun u H9 s9 r9 => ?_
      exact fin (G7.same.trans s9) (s9 _ _ e7) r9
end Dw
/-! Dw: _law_word, _law_crowd -/
namespace Dw
open PySem PySem.Spec PyProof.Rows L2
abbrev sLWord : Stmt := topS 65
abbrev sLCrowd : Stmt := topS 66
theorem tk_dice {K : PySem.W.Frag} {H H' : Hp} {d a : Addr} {ns : List Int} (D : DiceAt K H d a ns) (s : Same (rm H d) H') : Tk H H' := fun b ys h => by
  obtain ⟨i, m, c, e⟩ := D.at_
  refine s b _ ?_
  rw [rm_ne (fun z => by rw [z, e] at h; cases h)]
  exact h
theorem Good.eff {H0 H H' : Hp} {σ : L2.St} {Γ : List Sl} {K : PySem.W.Frag} {d a : Addr} {ns : List Int} (G : Good (rm H0 d) H σ Γ) (D : DiceAt K H d a ns) (s : Same (rm H d) H') (h : Γ.all (fun sl => !sl.own) = true := by rfl) : Good (rm H0 d) H' σ Γ := G.tk ((same_rm' G.same).trans s) (tk_dice D s) h
section
variable {X : Cx} {B B0 H : Hp} {σ : L2.St} {Γ : List Sl} {a b c e e1 e2 o : Expr} {pos pos' p p1 p2 p3 : Pos} {x y z : Str} {rest body orelse : List Stmt} {D : Ends} {Q : VK} {d s : Addr} {ns : List Int} {many k : Nat}
theorem re_next (K : KNext (mdOf X)) (h1 : EX X e1 σ H (.ref d)) (h2 : ED X e2 σ H (.int (many : Nat))) (m1 : 1 ≤ many) (m2 : many ≤ 100) (DA : DiceAt X.K H d s ns) (q : ∀ H' (x : Nat), Same (rm H d) H' → DiceAt X.K H' d s ns → x < many → Q (.int (x : Nat)) H')
    (hr : Room k X.A) (hk : 1 ≤ k := by decide) (hg : Gl X "_law_next" := by rfl) (hst : starEach [e1, e2] X.env = (false, eval e1 X.env) :: starEach [e2] X.env := by rfl) (hst2 : starEach [e2] X.env = (false, eval e2 X.env) :: starEach [] X.env := by rfl) (hpl : (backTo pos (starEach [e2] X.env)).any (·.1) = false := by rfl) : RE X (.Call (.Name "_law_next" p) [e1, e2] [] pos) σ H Q := by
  obtain ⟨f, fd, g1, g2, g3, g4⟩ := K.ex
  refine RE.of (pe_call (CX := CX0) (E := E0) g1 (hr.mono hk) hg g2 g3 g4 .nil pass0 ra_pa (by decide) hst hpl) ((ea_x h1 (ea_d h2 ea_0 hst2) hst).1 H (Same.refl _) _ fun vs H1 s1 kk => ?_)
  obtain ⟨v, u, rfl, hv, hu⟩ := pd2 kk
  rw [List.append_nil, show v = .ref d from hv, show u = .int many from Im.ofInt hu]
  exact ⟨d, s, ns, many, rfl, m1, m2, DA.mono s1, fun H' x z D' hx => q H' x ((same_rm s1).trans z) D' hx⟩
/-- next called and then any place where its value is used: the same, its argument an effect too -/
theorem re_next2 (K : KNext (mdOf X)) (h1 : EX X e1 σ H (.ref d)) (h2 : ∀ H1, Same H H1 → RE X e2 σ H1 fun u H2 => ∃ many : Nat, u = .int (many : Nat) ∧ 1 ≤ many ∧ many ≤ 100 ∧ DiceAt X.K H2 d s ns ∧ ∀ H' (x : Nat), Same (rm H2 d) H' → DiceAt X.K H' d s ns → x < many → Q (.int (x : Nat)) H')
    (hr : Room k X.A) (hk : 1 ≤ k := by decide) (hg : Gl X "_law_next" := by rfl) (hst : starEach [e1, e2] X.env = (false, eval e1 X.env) :: starEach [e2] X.env := by rfl) (hst2 : starEach [e2] X.env = (false, eval e2 X.env) :: starEach [] X.env := by rfl) (hpl : (backTo pos (starEach [e2] X.env)).any (·.1) = false := by rfl) : RE X (.Call (.Name "_law_next" p) [e1, e2] [] pos) σ H Q := by
  obtain ⟨f, fd, g1, g2, g3, g4⟩ := K.ex
  refine RE.of (pe_call (CX := CX0) (E := E0) g1 (hr.mono hk) hg g2 g3 g4 .nil pass0 (pa_cons re_pe (pa_cons re_pe pa_nil hst2) hst) (by decide) hst hpl) (h1 H (Same.refl _) _ fun v H1 s1 hv => (h2 H1 s1).imp fun u H2 ⟨many, hu, m1, m2, DA, q⟩ => ?_)
  rw [show v = .ref d from hv, hu]
  exact ⟨d, s, ns, many, rfl, m1, m2, DA, q⟩
/-- name = e, e changes the heap -/
theorem rss_setE (n : Nat) (he : RE X e σ H fun v H1 => RSs X rest D (σ.set n (some v)) H1) (nd : X.N.Nodup := by assumption) (hi : X.N[n]? = some x := by rfl) (hx : Loc X.env.scope x := by first | exact Or.inl rfl | exact Or.inr rfl) (hsw : swapsWith e (some (.Name x p)) pos.line X.env = pure false := by rfl)
    (hf : X.fn x = true ∨ X.env.scope.names.lookup x = some .local := by first | exact .inl rfl | exact .inr rfl) : RSs X (.Assign [.Name x p] e pos :: rest) D σ H := rss_cons (RS.of (ps_set nd hi hx re_pe hsw hf) he)
/-- if, its test an effect; and then on under what holds -/
theorem rss_ifE (P : L2.St → Hp → Prop) (hc : RT X c σ H fun b H1 => if b = true then RSs X body { D with nx := P } σ H1 else RSs X orelse { D with nx := P } σ H1) (h3 : ∀ σ H, P σ H → RSs X rest D σ H) : RSs X (.If c body orelse pos :: rest) D σ H :=
  rss_cons (RS.of (ps_if rt_pt rss_pss rss_pss) (by
    refine fun pins s I => thn (hc pins s I) fun b s' ⟨H', I', q⟩ => ⟨H', I', ?_⟩
    cases b with
    | true => exact iteT ((q : RSs X body _ σ H').imp h3 (fun _ _ q => q) (fun _ _ q => q) (fun _ _ q => q))
    | false => exact iteF ((q : RSs X orelse _ σ H').imp h3 (fun _ _ q => q) (fun _ _ q => q) (fun _ _ q => q))))
end
abbrev nLWord : List Str := ["_law_d", "_law_halls", "_law_size", "_law_doors", "_law_k"]
theorem scLWord : FnScope nLWord ["_law_d", "_law_halls", "_law_size"] (defScope sLWord) := ⟨rfl, rfl, rfl, by decide +kernel, rfl, by decide +kernel, by decide +kernel⟩
def spWord (K : PySem.W.Frag) : Sp := fun vs H Q _ => ∃ (d a : Addr) (ns : List Int) (h size : Nat), vs = [.ref d, .int (h : Nat), .int (size : Nat)] ∧ 1 ≤ h ∧ h ≤ 6 ∧ size ≤ 6 ∧ DiceAt K H d a ns ∧ ∀ H' w, Same (rm H d) H' → DiceAt K H' d a ns → Word h w → w.length ≤ size → Q (.str (txt w)) H'
abbrev KLWord (m : Md) := KnG m "_law_word" ["_law_d", "_law_halls", "_law_size"] 2 (spWord m.K)
def signL (acc : List Nat) : List V := acc.map fun x => V.str ⟨#[x + 49]⟩
theorem join_signs (acc : List Nat) : Txt.join (Str.ofString "") (acc.map fun x => (⟨#[x + 49]⟩ : Str)) = txt acc := by
  rw [txtJoin]
  induction acc with
  | nil => rfl
  | cons x acc ih =>
    cases acc with
    | nil => rfl
    | cons y acc =>
      show (⟨#[x + 49]⟩ : Str) ++ Str.ofString "" ++ Str.join (Str.ofString "") ((y :: acc).map fun x => (⟨#[x + 49]⟩ : Str)) = _
      rw [ih]
      have e : (⟨#[x + 49]⟩ : Str) ++ Str.ofString "" = txt [x] := by
        apply str_eq
        show ((#[x + 49] : Array Nat) ++ (Str.ofString "").cps).toList = _
        rw [show (Str.ofString "").cps = #[] from by decide +kernel]
        rfl
      rw [e, txt_app]
      rfl
theorem kn_lword {m : Md} (T : Tx m) (K1 : KNext m) (F : Df m "_law_word" sLWord ["_law_d", "_law_halls", "_law_size"]) : KLWord m := by
  obtain ⟨f, fd, h1, h2, h3⟩ := F.ex
  refine ⟨f, fd, ?_, h2, h1.kp, h3⟩
  refine h1.ok scLWord (fun vs H Q E ⟨_, _, _, _, _, e, _⟩ => by rw [e]; rfl) fun cdv A outer s H vs Q E hr hsp => ?_
  obtain ⟨d, a, ns, h, size, rfl, h1, h6, hsz, DA, q⟩ := hsp
  have hr : Room 1 (cxD m nLWord "_law_word" sLWord f ⟨cdv, A, outer, s, H, E⟩).A := hr
  have nd : (cxD m nLWord "_law_word" sLWord f ⟨cdv, A, outer, s, H, E⟩).N.Nodup := scLWord.nd
  have hu := hr.units
  refine ⟨RSs (cxD m nLWord "_law_word" sLWord f ⟨cdv, A, outer, s, H, E⟩) (defBody sLWord), rss_pss, ?_⟩
  have G : Good H H (L2.start nLWord [V.ref d, .int (h : Nat), .int (size : Nat)]) [.raw (.ref d), .dat (.int (h : Nat)), .dat (.int (size : Nat)), .un, .un] :=
    (start_good (N := nLWord) (ss := [.raw (.ref d), .dat (.int (h : Nat)), .dat (.int (size : Nat))]) (by show 3 ≤ 5; decide) (.cons ⟨rfl, rfl⟩ (.cons ⟨rfl, _, rfl, im_int _⟩ (.cons ⟨rfl, _, rfl, im_int _⟩ .nil))))
  refine rss_set (d := .str (txt (List.range h))) 3 (ED.to (ed_slS (l := none) (u := some (h : Nat)) ed_str eo_n (eo_s (vd 1)) (by decide +kernel)) (by rw [cut_doors h h1 h6])) fun σ1 H1 G => ?_
  have DA1 := DA.mono G.same
  have G1 := G.less (rm_le (l := d))
  refine rss_ifE (fun σ' H' => ∃ dw, Good (rm H d) H' σ' [.raw (.ref d), .dat (.int (h : Nat)), .dat (.int (size : Nat)), .dat (.str (txt dw)), .un] ∧ DiceAt m.K H' d a ns ∧ Word h dw ∧ 1 ≤ dw.length ∧ dw.length ≤ 8) (RT.of (pt_cmpR (op_eqD hu) re_pe re_pe (nomark _)) (re_next (many := 3) K1 (vx 0) ed_int (by decide) (by decide) DA1 (fun H2 x z2 DA2 hx => ?_) hr)) ?_
  · have G2 := G1.eff DA1 z2
    refine ed_int _ (Same.refl _) _ fun v H3 s3 hv => ?_
    have hv : Im H3 (.int 0) v := hv
    refine ⟨.int (x : Nat), .int 0, .int _, Im.dp _ _ hv, shI, shI, PyData.eqv (.int (x : Nat)) (.int 0), rfl, ?_⟩
    have G3 := G2.mono s3
    have DA3 := DA2.mono s3
    have hlr : (List.range h).length = h := List.length_range
    dsimp only
    split
    · refine rss_setE 3 (RE.of (pe_op op_add_str (pe_slice sl_str re_pe (po_some re_pe) po_none) re_pe) ?_)
      refine (vd 3 (d := .str (txt (List.range h))) : ED _ _ _ _ _) _ (Same.refl _) _ fun v4 H4 s4 r4 => ?_
      have DA4 := DA3.mono s4
      have G4 := G3.mono s4
      refine re_next (many := h) K1 (vx 0) (vd 1) h1 (by omega) DA4 (fun H5 y z5 DA5 hy => ⟨(y : Nat), rfl, txt (List.range h), Im.ofStr r4, by rw [txt_len, hlr]; exact small _ (by omega), ?_⟩) hr
      have G5 := G4.eff DA4 z5
      refine ed_slS (l := none) (u := some ((1 : Nat) : Int)) (vd 3) eo_n (eo_s ed_int) (by rw [txt_len, hlr]; exact small _ (by omega)) _ (Same.refl _) _ fun v6 H6 s6 r6 => ?_
      rw [cut_take (by rw [hlr]; exact h1)] at r6
      refine ⟨_, _, rfl, Im.ofStr r6, ?_, ?_⟩
      · rw [cut_drop (by rw [hlr]; omega), txt_len, txt_len, List.length_drop, List.length_take, hlr]
        exact small _ (by omega)
      rw [cut_drop (by rw [hlr]; omega), txt_app]
      refine rss_nil ⟨(List.range h).drop y ++ (List.range h).take 1, ((G5.mono s6).setD 3 (im_str _)).wk, DA5.mono s6, fun e he => ?_, ?_, ?_⟩
      · rcases List.mem_append.mp he with he | he
        · exact List.mem_range.mp (List.mem_of_mem_drop he)
        · exact List.mem_range.mp (List.mem_of_mem_take he)
      · rw [List.length_append, List.length_drop, hlr]; omega
      · rw [List.length_append, List.length_drop, List.length_take, hlr]; omega
    · exact rss_nil ⟨List.range h, G3.wk, DA3, fun e he => List.mem_range.mp he, by rw [hlr]; exact h1, by rw [hlr]; omega⟩
  · intro σ2 H2 ⟨dw, G2, DA2, W2, l1, l8⟩
    refine rss_cons (RS.of (ps_ret (pe_join re_pe re_pe)) ?_)
    refine ed_str _ (Same.refl _) _ fun v3 H3 s3 r3 => ⟨⟨_, Im.ofStr r3⟩, ?_⟩
    have G3 := G2.mono s3
    have DA3 := DA2.mono s3
    refine re_lc (own := [("_law_k", 4)]) (lc_w (g := gName 4) (pi_range1 (by rfl) T.range ra_pa) (blkOk_by (N := nLWord) (sc := defScope sLWord) (by decide +kernel)) (fun _ _ C cl _ => pg_name nd rfl (Or.inl rfl) (.inr rfl)) (by intro _; rfl) (fun R R' k h => ra_imp h fun vs H1 ⟨j, e1, q1, q2, r⟩ => ⟨j, e1, q1, q2, k _ _ r⟩) ?_) nd rfl
    refine RA.of (pa_cons re_pe pa_nil) (re_next (many := size + 1) K1 (vx 0) (ED.to (ed_add (vd 2) ed_int) (by congr 1)) (by omega) (by omega) DA3 (fun H4 n z4 DA4 hn => ⟨_, rfl, by omega, by omega, fun D hD => ?_⟩) hr)
    have G4 := G3.eff DA3 z4
    obtain ⟨i0, m0, c0', e0⟩ := DA4.at_
    have hDd : D ≠ d := fun z => by rw [z, e0] at hD; cases hD
    rw [Int.toNat_natCast]
    refine ⟨n, _, _, fun i H' => Same (rm H4 d) H' ∧ DiceAt m.K H' d a ns ∧ ∃ acc, H' D = some (.lst (signL acc)) ∧ acc.length = i ∧ Word h acc, walk_range (lo := 0) (n := n), ⟨rm_le.trans (Same.new hD), DA4.mono (Same.new hD), [], upd_same, rfl, fun e he => (List.not_mem_nil he).elim⟩, fun _ _ _ _ => trivial, fun i x H' H'' hi ⟨z5, DA5, acc, eD, la, Wa⟩ ⟨eH, ex⟩ => ?_, fun H' ⟨z5, DA5, acc, eD, la, Wa⟩ => ?_⟩
    · subst eH
      refine ⟨wipe_set1 (by decide), fun s0 H0 C cl fp => ?_⟩
      have G5 := ((G4.eff DA4 z5).wiped [4]).set 4 (sl := .un) (v := x) trivial rfl
      have WW : ∀ {k : Nat}, k < dw.length → (txt dw).cps.toList[k]? = some (dw.getD k 0 + 49) := fun {k} hk => by rw [txt_list, List.getElem?_map, getElem?_D (d := 0) hk]; rfl
      refine RE.of (pe_ix ix_str re_pe re_pe (fun _ _ => rfl)) ?_
      refine (vd (X := Cx.blk _ _ _ _ _ _) 3 (d := .str (txt dw)) (G := G5)) _ (Same.refl _) _ fun v6 H6 s6 r6 => ?_
      have G6 := G5.mono s6
      have DA6 := DA5.mono s6
      refine re_next (X := Cx.blk _ _ _ _ _ _) (many := dw.length) K1 (vx 0) (lenT (by rfl) T.len (vd 3) (small _ (by omega))) l1 (by omega) DA6 (fun H7 y z7 DA7 hy => ⟨txt dw, (y : Nat), dw.getD y 0 + 49, Im.ofStr r6, rfl, by rw [txt_len]; exact small _ (by omega), atI_of rfl (WW hy), ?_⟩) hr
      have eD7 := z7 _ _ (show rm H6 d D = _ by rw [rm_ne hDd]; exact s6 _ _ eD)
      refine ⟨_, eD7, by unfold signL; rw [List.length_map, la]; exact smallL _ (by omega), ?_, ?_, acc ++ [dw.getD y 0], ?_, by rw [List.length_append, la]; rfl, ?_⟩
      · exact same_updN ((same_rm' (z5.trans s6)).trans z7) (by rw [rm_ne hDd]; exact hD)
      · refine ⟨sq_mono DA4.scr (same_rm' (same_updN ((same_rm' (z5.trans s6)).trans z7) (by rw [rm_ne hDd]; exact hD))), ?_⟩
        · obtain ⟨i7, m7, c7, e7⟩ := DA7.at_
          exact ⟨i7, m7, c7, by rw [upd_ne (Ne.symm hDd)]; exact e7⟩
      · rw [upd_same]
        unfold signL
        rw [List.map_append]
        rfl
      · intro e he
        rcases List.mem_append.mp he with he | he
        · exact Wa e he
        · rw [List.mem_singleton] at he
          rw [he]
          exact W2.at hy
    · refine ⟨_, D, acc.map (fun x => (⟨#[x + 49]⟩ : Str)), Im.ofStr r3, rfl, .inl (SqL.of (by rw [eD]; unfold signL; rw [List.map_map]; rfl)), ?_, ?_⟩
      · rw [List.map_map, List.length_map]
        have e1 : (acc.map ((fun x => x.length) ∘ fun x => (⟨#[x + 49]⟩ : Str))).sum = acc.length := by
          have := sum_le (g := fun _ : Nat => 1) (n := 1) acc fun _ _ => Nat.le_refl _
          have h2 : ∀ l : List Nat, (l.map ((fun x => x.length) ∘ fun x => (⟨#[x + 49]⟩ : Str))).sum = l.length := by
            intro l
            induction l with
            | nil => rfl
            | cons y l ih => rw [List.map_cons, List.sum_cons, ih, List.length_cons]; show 1 + _ = _; omega
          exact h2 acc
        rw [e1]
        have e2 : (Str.ofString "").length = 0 := by decide +kernel
        rw [e2]
        omega
      · rw [join_signs]
        have zz : Same (rm H d) H' := (same_rm' ((same_rm' G3.same).trans z4)).trans z5
        exact q H' acc zz DA5 Wa (by omega)
end Dw
/-! Dw: _law_crowd -/
namespace Dw
open PySem PySem.Spec PyProof.Rows L2
abbrev nLCrowd : List Str := ["_law_d", "_law_halls", "_law_far", "_law_k"]
theorem scLCrowd : FnScope nLCrowd ["_law_d", "_law_halls", "_law_far"] (defScope sLCrowd) := ⟨rfl, rfl, rfl, by decide +kernel, rfl, by decide +kernel, by decide +kernel⟩
def spCrowd (K : PySem.W.Frag) : Sp := fun vs H Q _ => ∃ (d a : Addr) (ns : List Int) (h : Nat), vs = [.ref d, .int (h : Nat), .int (9 : Int)] ∧ 1 ≤ h ∧ h ≤ 6 ∧ DiceAt K H d a ns ∧ ∀ H' (cr : List Int) v, Same (rm H d) H' → DiceAt K H' d a ns → cr.length = h → (∀ x ∈ cr, 0 ≤ x ∧ x ≤ 8) → Im H' (rowD cr) v → Q v H'
abbrev KLCrowd (m : Md) := KnG m "_law_crowd" ["_law_d", "_law_halls", "_law_far"] 2 (spCrowd m.K)
theorem kn_lcrowd {m : Md} (T : Tx m) (K1 : KNext m) (F : Df m "_law_crowd" sLCrowd ["_law_d", "_law_halls", "_law_far"]) : KLCrowd m := by
  obtain ⟨f, fd, h1, h2, h3⟩ := F.ex
  refine ⟨f, fd, ?_, h2, h1.kp, h3⟩
  refine h1.ok scLCrowd (fun vs H Q E ⟨_, _, _, _, e, _⟩ => by rw [e]; rfl) fun cdv A outer s H vs Q E hr hsp => ?_
  obtain ⟨d, a, ns, h, rfl, h1, h6, DA, q⟩ := hsp
  have hr : Room 1 (cxD m nLCrowd "_law_crowd" sLCrowd f ⟨cdv, A, outer, s, H, E⟩).A := hr
  have nd : (cxD m nLCrowd "_law_crowd" sLCrowd f ⟨cdv, A, outer, s, H, E⟩).N.Nodup := scLCrowd.nd
  refine ⟨RSs (cxD m nLCrowd "_law_crowd" sLCrowd f ⟨cdv, A, outer, s, H, E⟩) (defBody sLCrowd), rss_pss, ?_⟩
  have G : Good (rm H d) H (L2.start nLCrowd [V.ref d, .int (h : Nat), .int 9]) [.raw (.ref d), .dat (.int (h : Nat)), .dat (.int 9), .un] :=
    (start_good (N := nLCrowd) (ss := [.raw (.ref d), .dat (.int (h : Nat)), .dat (.int 9)]) (by show 3 ≤ 4; decide) (.cons ⟨rfl, rfl⟩ (.cons ⟨rfl, _, rfl, im_int _⟩ (.cons ⟨rfl, _, rfl, im_int _⟩ .nil)))).less rm_le
  refine rss_cons (RS.of (ps_ret (pe_callTy call_tuple_of (by rfl) T.tuple PyProof.Rows.boot_tuple (pa_cons re_pe pa_nil (by rfl)) (by decide) (by decide) (by rfl) (by rfl))) ?_)
  refine re_lc (own := [("_law_k", 3)]) (lc_w (g := gName 3) (pi_range1 (by rfl) T.range ra_pa) (blkOk_by (N := nLCrowd) (sc := defScope sLCrowd) (by decide +kernel)) (fun _ _ C cl _ => pg_name nd rfl (Or.inl rfl) (.inr rfl)) (by intro _; rfl) (fun R R' k h => ra_imp h fun vs H1 ⟨j, e1, q1, q2, r⟩ => ⟨j, e1, q1, q2, k _ _ r⟩) ?_) nd rfl
  refine RA.of (pa_cons re_pe pa_nil) ((vd 1 (d := .int (h : Nat)) : ED _ _ _ _ _) _ (Same.refl _) _ fun v1 H1 s1 r1 => ⟨((h : Nat) : Int), by rw [show v1 = _ from Im.ofInt r1], by omega, by omega, fun D hD => ?_⟩)
  rw [Int.toNat_natCast]
  have DA1 := DA.mono s1
  have G1 := G.mono s1
  obtain ⟨i0, m0, c0', e0⟩ := DA1.at_
  have hDd : D ≠ d := fun z => by rw [z, e0] at hD; cases hD
  refine ⟨h, _, _, fun i H' => Same (rm H1 d) H' ∧ DiceAt m.K H' d a ns ∧ ∃ acc : List Int, H' D = some (.lst (acc.map V.int)) ∧ acc.length = i ∧ ∀ x ∈ acc, 0 ≤ x ∧ x ≤ 8, walk_range (lo := 0) (n := h), ⟨rm_le.trans (Same.new hD), DA1.mono (Same.new hD), [], upd_same, rfl, fun e he => (List.not_mem_nil he).elim⟩, fun _ _ _ _ => trivial, fun i x H' H'' hi ⟨z5, DA5, acc, eD, la, Wa⟩ ⟨eH, ex⟩ => ?_, fun H' ⟨z5, DA5, acc, eD, la, Wa⟩ => ?_⟩
  · subst eH
    refine ⟨wipe_set1 (by decide), fun s0 H0 C cl fp => ?_⟩
    have G5 := ((G1.eff DA1 z5).wiped [3]).set 3 (sl := .un) (v := x) trivial rfl
    refine re_next2 (X := Cx.blk _ _ _ _ _ _) (d := d) (s := a) (ns := ns) K1 (vx 0) (fun H6 s6 => ?_) hr
    have G6 := G5.mono s6
    have DA6 := DA5.mono s6
    refine RE.of (pe_ix ix_list re_pe re_pe (fun _ _ => rfl)) ?_
    refine (en_lst (X := Cx.blk _ _ _ _ _ _) (ds := [.int 2, .int 5, .int 9]) (ea_d ed_int (ea_d ed_int (ea_d (vd 2) ea_0))) (hl := by show 3 ≤ 16777216; decide)) _ (Same.refl _) _ fun v7 H7 s7 ⟨l, vs, e7, n7, g7, i7⟩ => ?_
    have DA7 := DA6.mono s7
    have G7 := G6.mono s7
    have hld : l ≠ d := fun z => by
      obtain ⟨i8, m8, c8, e8⟩ := DA6.at_
      rw [z, e8] at n7
      cases n7
    have evs : vs = [V.int 2, .int 5, .int 9] := ImAll.ints (ns := [2, 5, 9]) i7
    refine re_next (X := Cx.blk _ _ _ _ _ _) (many := 3) K1 (vx 0) ed_int (by decide) (by decide) DA7 (fun H8 y z8 DA8 hy => ?_) hr
    have el8 := z8 _ _ (show rm H7 d l = _ by rw [rm_ne hld]; exact g7)
    obtain ⟨mv, hmv1, hmv2, hmv3⟩ : ∃ mv : Nat, vs[y]? = some (.int (mv : Nat)) ∧ 1 ≤ mv ∧ mv ≤ 9 := by
      rw [evs]
      have : y = 0 ∨ y = 1 ∨ y = 2 := by omega
      rcases this with rfl | rfl | rfl
      · exact ⟨2, rfl, by decide, by decide⟩
      · exact ⟨5, rfl, by decide, by decide⟩
      · exact ⟨9, rfl, by decide, by decide⟩
    refine ⟨l, vs, (y : Nat), .int (mv : Nat), e7, rfl, SqL.of el8, atI_of rfl hmv1, mv, rfl, hmv2, by omega, DA8, fun H9 x9 z9 DA9 hx9 => ?_⟩
    have zAll : Same (rm H1 d) H9 := (same_rm' ((same_rm' (z5.trans (s6.trans s7))).trans z8)).trans z9
    have eD9 : H9 D = some (.lst (acc.map V.int)) := z9 _ _ (show rm H8 d D = _ by rw [rm_ne hDd]; exact z8 _ _ (show rm H7 d D = _ by rw [rm_ne hDd]; exact (s6.trans s7) _ _ eD))
    refine ⟨_, eD9, by rw [List.length_map, la]; exact smallL _ (by omega), same_updN zAll (by rw [rm_ne hDd]; exact hD), ⟨sq_mono DA1.scr (same_rm' (same_updN zAll (by rw [rm_ne hDd]; exact hD))), ?_⟩, acc ++ [(x9 : Int)], ?_, by rw [List.length_append, la]; rfl, ?_⟩
    · obtain ⟨i7, m7, c7, e7⟩ := DA9.at_
      exact ⟨i7, m7, c7, by rw [upd_ne (Ne.symm hDd)]; exact e7⟩
    · rw [upd_same, List.map_append]
      rfl
    · intro e he
      rcases List.mem_append.mp he with he | he
      · exact Wa e he
      · rw [List.mem_singleton] at he
        rw [he]
        omega
  · refine ⟨D, _, rfl, .inl ⟨SqL.of eD, fun l hl => ?_⟩⟩
    have zz : Same (rm H d) H' := (same_rm s1).trans z5
    have sl := Same.new (o := .tup (acc.map V.int)) hl
    exact q _ acc _ (zz.trans sl) (DA5.mono sl) la Wa (im_tup upd_same (imAll_map (fun x => im_int x) acc))
end Dw
/-! Dw: Bench -/
namespace Dw
open PySem PySem.Spec PyProof.Rows L2
abbrev sBench : Stmt := topS 28
abbrev sBInit : Stmt := clsB sBench 0
abbrev sKeep : Stmt := clsB sBench 1
abbrev sDo : Stmt := clsB sBench 4
abbrev sBCrowd : Stmt := clsB sBench 6
abbrev sSteps : Stmt := clsB sBench 8
structure Bch (m : Md) (C : Addr) : Prop where
  cls : Cls m.K C
  nR : NoAttr m.K C "rows"
  nP : NoAttr m.K C "past"
  mg : m.mg "Bench" = some (.ref C)
  init : ∃ (f : Addr) (fd : FuncData), Fun m.K "__init__" "Bench.__init__" sBInit f fd ∧ Binds m.K fd ["self", "crowd"] [] ∧ Mk m.K C f
  keep : Mf m C "keep" "Bench.keep" sKeep ["self", "deed"]
  do_ : Mf m C "do" "Bench.do" sDo ["self", "work"]
  crowd : Mf m C "crowd" "Bench.crowd" sBCrowd ["self"]
  steps : Mf m C "steps" "Bench.steps" sSteps ["self"]
def bFs (rd pd : Addr) : List (Str × V) := [("rows", .ref rd), ("past", .ref pd)]
section
variable {X : Cx} {B B0 H : Hp} {σ : L2.St} {Γ : List Sl} {a b c e o : Expr} {pos pos' p p1 p2 apos cpos : Pos} {x y z f : Str} {rest body orelse : List Stmt} {D : Ends} {Q : VK} {R : VR} {l s : Addr} {vs : List V} {ds : List PyData}
theorem EX.er (he : EX X e σ H (.ref l)) (hl : H l = some (.lst vs)) (hi : ImAll H ds vs) : ER X e σ H ds := fun H1 s1 Q q => he H1 s1 _ fun v H2 s2 hv => q v H2 s2 ⟨l, vs, hv, (s1.trans s2) _ _ hl, hi.mono (Tk.of (s1.trans s2))⟩
/-- o.append(e) -/
theorem rss_appV (ho : EX X o σ H (.ref l)) (hl : H l = some (.lst vs)) (he : EV X e σ H R) (hz : vs.length < sizeLine) (q : ∀ v H1 H2, Same H H1 → Same H1 H2 → R H1 H2 v → RSs X rest D σ (L2.upd H2 l (.lst (vs ++ [v]))))
    (hsw : swapsWith (.Call (.Attribute o "append" apos) [e] [] cpos) none pos.line X.env = pure false := by rfl)
    (hbase : attributeBase o "append" X.env (eval o X.env) = eval o X.env := by rfl)
    (hfew : ((backTo cpos (starEach [e] X.env)).all (fun x => !x.1) && (backToKw cpos (keywordEach [] X.env)).all (fun x => x.1.isSome) && decide ([e].length + ([] : List Keyword).length + (if ([] : List Keyword).isEmpty then 0 else 1) < 30)) = true := by rfl)
    (hline : (apos.endLine == cpos.line) = true := by rfl) (hst : starEach [e] X.env = (false, eval e X.env) :: starEach [] X.env := by rfl) (hplain : (backTo cpos (starEach [] X.env)).any (·.1) = false := by rfl) :
    RSs X (.Expr (.Call (.Attribute o "append" apos) [e] [] cpos) pos :: rest) D σ H :=
  rss_cons (RS.of (ps_expr (pe_bm PySem.F.plainAttrs_list PySem.F.slot_list_append PySem.F.type_list_append mt_append re_pe (pa_cons re_pe pa_nil hst) hbase hfew hline hst hplain) hsw) (ho H (Same.refl _) _ fun x H1 s1 hx => by
    have hx : x = .ref l := hx
    subst hx
    refine ⟨Or.inl ⟨rfl, _, SqL.of (s1 _ _ hl)⟩, he H1 s1 _ fun v H2 s2 hv => ⟨l, vs, v, rfl, rfl, s2 _ _ (s1 _ _ hl), hz, ?_⟩⟩
    exact q v H1 H2 s1 s2 hv))
/-- list(a list) -/
theorem ev_listV (hg : Gl X "list") (hm : X.mg "list" = none) (ho : EX X e σ H (.ref l)) (hl : H l = some (.lst vs)) (hst : starEach [e] X.env = (false, eval e X.env) :: starEach [] X.env := by rfl) (hpl : (backTo pos (starEach [] X.env)).any (·.1) = false := by rfl) : EV X (.Call (.Name "list" p) [e] [] pos) σ H (fun H1 H2 v => ∃ c, v = .ref c ∧ H1 c = none ∧ H2 c = some (.lst vs)) :=
  ev_pe (pe_callTy call_list_of hg hm PyProof.Rows.boot_list (pa_cons re_pe pa_nil hst) (by decide) (by decide) hst hpl) fun H1 s1 Q q => ho H1 s1 _ fun x H2 s2 hx => ⟨l, vs, by rw [show x = .ref l from hx], .inl (SqL.of ((s1.trans s2) _ _ hl)), fun c hc => q _ _ (s2.trans (Same.new hc)) ⟨c, rfl, s2.free hc, upd_same⟩⟩
end
/-! ### __init__ -/
def spBInit (C : Addr) : Sp := fun vs H Q _ => ∃ (b dx : Addr) (cr : List Int) (v : V), vs = [.ref b, v] ∧ Im H (rowD cr) v ∧ H b = some (.ins C dx []) ∧ 1 ≤ cr.length ∧ cr.length ≤ 6 ∧ Crowd cr ∧
  ∀ H' rd pd, Same (rm H b) H' → H' b = some (.ins C dx (bFs rd pd)) → H' rd = some (.lst ((cr ++ [0]).map V.int)) → H' pd = some (.lst []) → rd ≠ pd → Q .non H'
theorem scBInit : FnScope ["self", "crowd"] ["self", "crowd"] (defScope sBInit) := ⟨rfl, rfl, rfl, by decide +kernel, rfl, by decide +kernel, by decide +kernel⟩
theorem kn_binit {m : Md} {C : Addr} (T : Tx m) (BT : Bch m C) (K1 : KNeedAny m) : ∃ f fd, FnOk m.P m.w m.K m.mg m.base CX0 3 f fd ["self", "crowd"] (spBInit C) ∧ Binds m.K fd ["self", "crowd"] [] ∧ Mk m.K C f := by
  obtain ⟨f, fd, h1, h2, h3⟩ := BT.init
  refine ⟨f, fd, ?_, h2, h3⟩
  refine h1.ok scBInit (fun vs H Q E ⟨_, _, _, _, e, _⟩ => by rw [e]; rfl) fun cdv A outer s H vs Q E hr hsp => ?_
  obtain ⟨b, dx, cr, v, rfl, iv, eb, l1, l6, C0, q⟩ := hsp
  have hr : Room 2 (cxD m ["self", "crowd"] "Bench.__init__" sBInit f ⟨cdv, A, outer, s, H, E⟩).A := hr
  have nd : (cxD m ["self", "crowd"] "Bench.__init__" sBInit f ⟨cdv, A, outer, s, H, E⟩).N.Nodup := scBInit.nd
  refine ⟨RSs (cxD m ["self", "crowd"] "Bench.__init__" sBInit f ⟨cdv, A, outer, s, H, E⟩) (defBody sBInit), rss_pss, ?_⟩
  have G : Good H H (L2.start ["self", "crowd"] [V.ref b, v]) [.raw (.ref b), .dat (rowD cr)] :=
    (start_good (N := ["self", "crowd"]) (ss := [.raw (.ref b), .dat (rowD cr)]) (by show 2 ≤ 2; decide) (.cons ⟨rfl, rfl⟩ (.cons ⟨rfl, _, rfl, iv⟩ .nil)))
  refine rss_expr (ed_call K1 (as_d (vd 1) as_0) ⟨cr, rfl, l1, l6, C0, rfl⟩) fun H1 G => ?_
  have eb1 := G.same _ _ eb
  have G := G.less (rm_le (l := b))
  refine rss_fld (R := rN ((cr ++ [0]).map PyData.int)) (f := "rows") (EN.to (ev_cat (en_listT (by rfl) T.list (vd 1)).er (en_lst (ds := [.int 0]) (ea_d ed_int ea_0)).er (by simp; exact small _ (by omega))) (by rw [List.map_append]; rfl)) (vx 0) eb1 BT.cls BT.nR (by decide) fun y1 H2 H3 s2 ⟨rd, vs, e1, n1, g1, i1⟩ s3 => ?_
  subst e1
  have evs := i1.ints
  subst evs
  have G1 := G.ins (o := .ins C dx (putF "rows" (.ref rd) [])) (s2.trans s3) eb1
  have hrb : rd ≠ b := fun z => by rw [z, eb1] at n1; cases n1
  refine rss_fld (R := fun H1 H2 v => ∃ pd, v = .ref pd ∧ H1 pd = none ∧ H2 pd = some (.lst [])) (f := "past") (fun H4 s4 Q q => (en_nil _ s4 Q fun v H5 s5 ⟨pd, vs, e, n, g, i⟩ => q v H5 s5 ⟨pd, e, n, by simp only [ImAll] at i; rw [i] at g; exact g⟩)) (vx 0) upd_same BT.cls BT.nP (lt1000 (le_putF le0)) fun y2 H4 H5 s4 ⟨pd, e2, n2, g2⟩ s5 => ?_
  subst e2
  have G2 := G1.ins (o := .ins C dx (putF "past" (.ref pd) (putF "rows" (.ref rd) []))) (s4.trans s5) upd_same
  have hpb : pd ≠ b := fun z => by rw [z, upd_same] at n2; cases n2
  have er1 : L2.upd H3 b (.ins C dx (putF "rows" (.ref rd) [])) rd = some (.lst ((cr ++ [0]).map V.int)) := by
    rw [upd_ne hrb]
    exact s3 _ _ g1
  have hrp : rd ≠ pd := fun z => by subst z; rw [er1] at n2; cases n2
  refine rss_nil (q _ rd pd G2.same ?_ ?_ ?_ hrp)
  · rw [upd_same]
    rfl
  · rw [upd_ne hrb]
    exact s5 _ _ (s4 _ _ er1)
  · rw [upd_ne hpb]
    exact s5 _ _ g2
/-! ### keep -/
def spKeep (C : Addr) : Sp := fun vs H Q _ => ∃ (b dx rd pd : Addr) (ns : List Int) (deed : PyData) (v : V) (ps : List V), vs = [.ref b, v] ∧ Im H deed v ∧ H b = some (.ins C dx (bFs rd pd)) ∧ H rd = some (.lst (ns.map V.int)) ∧ H pd = some (.lst ps) ∧ rd ≠ pd ∧ ps.length ≤ 10 ∧
  ∀ H' T c u, Same (rm H pd) H' → H' pd = some (.lst (ps ++ [.ref T])) → H' T = some (.tup [.ref c, u]) → Im H' deed u → Q .non H'
abbrev KKeep (m : Md) (C : Addr) := KmG m C "keep" ["self", "deed"] 1 (spKeep C)
theorem scKeep : FnScope ["self", "deed"] ["self", "deed"] (defScope sKeep) := ⟨rfl, rfl, rfl, by decide +kernel, rfl, by decide +kernel, by decide +kernel⟩
theorem kn_keep {m : Md} {C : Addr} (T : Tx m) (BT : Bch m C) : KKeep m C := by
  obtain ⟨f, fd, h1, h2, h3⟩ := BT.keep.ex
  refine ⟨f, fd, ?_, h2, h3⟩
  refine h1.ok scKeep (fun vs H Q E ⟨_, _, _, _, _, _, _, _, e, _⟩ => by rw [e]; rfl) fun cdv A outer s H vs Q E hr hsp => ?_
  obtain ⟨b, dx, rd, pd, ns, deed, v, ps, rfl, iv, eb, er, ep, hrp, hl, q⟩ := hsp
  have nd : (cxD m ["self", "deed"] "Bench.keep" sKeep f ⟨cdv, A, outer, s, H, E⟩).N.Nodup := scKeep.nd
  refine ⟨RSs (cxD m ["self", "deed"] "Bench.keep" sKeep f ⟨cdv, A, outer, s, H, E⟩) (defBody sKeep), rss_pss, ?_⟩
  have G : Good H H (L2.start ["self", "deed"] [V.ref b, v]) [.raw (.ref b), .dat deed] :=
    (start_good (N := ["self", "deed"]) (ss := [.raw (.ref b), .dat deed]) (by show 2 ≤ 2; decide) (.cons ⟨rfl, rfl⟩ (.cons ⟨rfl, _, rfl, iv⟩ .nil)))
  have ne : ∀ {H1 : Hp}, H1 pd = some (.lst ps) → ∀ xs, H1 pd ≠ some (.tup xs) := fun e xs z => by rw [e] at z; cases z
  refine rss_appV (l := pd) (vs := ps) (R := fun H1 H2 v => ∃ T c u, v = .ref T ∧ H2 T = some (.tup [.ref c, u]) ∧ Im H2 deed u) (ex_fld (vx 0) eb BT.cls BT.nP rfl) ep ?_ (smallL _ (by omega)) fun v1 H1 H2 s1 s2 ⟨T', c, u, e1, g1, i1⟩ => ?_
  · refine ev_pe (pe_tup (pa_cons re_pe (pa_cons re_pe pa_nil (by rfl)) (by rfl))) fun H1 s1 Q q => ?_
    have G1 := G.mono s1
    refine (ev_listV (by rfl) T.list (ex_fld (vx 0) (s1 _ _ eb) BT.cls BT.nR rfl) (s1 _ _ er)) _ (Same.refl _) _ fun v2 H2 s2 ⟨c, e2, n2, g2⟩ => ?_
    refine (vd 1 (d := deed) (G := G1.mono s2)) _ (Same.refl _) _ fun v3 H3 s3 i3 => ⟨by show 2 ≤ 16777216; decide, fun T' hT => ?_⟩
    have i3 : Im H3 deed v3 := i3
    exact q _ _ ((s2.trans s3).trans (Same.new hT)) ⟨T', c, v3, rfl, by rw [upd_same, e2], i3.mono (Tk.of (Same.new hT))⟩
  · have s12 := s1.trans s2
    have ep2 := s12 _ _ ep
    have hT : T' ≠ pd := fun z => by rw [z, ep2] at g1; cases g1
    rw [e1]
    refine rss_nil (q _ T' c u ?_ upd_same (by rw [upd_ne hT]; exact g1) (i1.mono (Tk.upd (ne ep2))))
    exact (same_rm s12).trans rm_upd
end Dw
/-! Dw: Bench.do, crowd, steps -/
namespace Dw
open PySem PySem.Spec PyProof.Rows L2
def doD (w : List Nat) : PyData := .tuple [.str "do", .str (txt w)]
section
variable {X : Cx} {B B0 H : Hp} {σ : L2.St} {Γ : List Sl} {a b c e e1 e2 o : Expr} {pos pos' p p1 p2 apos cpos : Pos} {x y z f : Str} {rest body orelse : List Stmt} {D : Ends} {Q : VK} {R : VR} {l s C dx rd pd : Addr} {vs : List V} {ds : List PyData} {ns : List Int} {d k : Nat} {pl : Sem Bool}
/-- an expression that changes the heap, its value dropped -/
theorem rss_exprE (he : RE X e σ H fun _ H1 => RSs X rest D σ H1) (hs : swapsWith e none pos.line X.env = pure false := by rfl) : RSs X (.Expr e pos :: rest) D σ H := rss_cons (RS.of (ps_expr re_pe hs) he)
theorem re_stepV (K : KStep (mdOf X)) (h1 : EX X e1 σ H (.ref l)) (h2 : ED X e2 σ H (.int (d : Nat))) (hl : H l = some (.lst (ns.map V.int))) (hd : d + 1 < ns.length) (q : ∀ H2 H' v, Same H H2 → Same (L2.upd H2 l (.lst ((stepL ns d).map V.int))) H' → Q v H')
    (hr : Room k X.A) (hk : 1 ≤ k := by decide) (hg : Gl X "step" := by rfl) (hst : starEach [e1, e2] X.env = (false, eval e1 X.env) :: starEach [e2] X.env := by rfl) (hst2 : starEach [e2] X.env = (false, eval e2 X.env) :: starEach [] X.env := by rfl) (hpl : (backTo pos (starEach [e2] X.env)).any (·.1) = false := by rfl) : RE X (.Call (.Name "step" p) [e1, e2] [] pos) σ H Q := by
  obtain ⟨f, fd, g1, g2, g3, g4⟩ := K.ex
  refine RE.of (pe_call (CX := CX0) (E := E0) g1 (hr.mono hk) hg g2 g3 g4 .nil pass0 ra_pa (by decide) hst hpl) ((ea_x h1 (ea_d h2 ea_0 hst2) hst).1 H (Same.refl _) _ fun vs H1 s1 kk => ?_)
  obtain ⟨v, u, rfl, hv, hu⟩ := pd2 kk
  rw [List.append_nil, show v = .ref l from hv, show u = .int d from Im.ofInt hu]
  exact ⟨l, ns, d, rfl, s1 _ _ hl, hd, fun H' z => q H1 H' _ s1 z⟩
theorem re_keep (K : KKeep (mdOf X) C) (hc : Cls X.K C) (ho : EX X o σ H (.ref s)) {deed : PyData} {ps : List V} (h1 : ED X e1 σ H deed) (eb : H s = some (.ins C dx (bFs rd pd))) (er : H rd = some (.lst (ns.map V.int))) (ep : H pd = some (.lst ps)) (hrp : rd ≠ pd) (hl : ps.length ≤ 10)
    (q : ∀ H' T c u, Same (rm H pd) H' → H' pd = some (.lst (ps ++ [.ref T])) → H' T = some (.tup [.ref c, u]) → Im H' deed u → Q .non H') (hr : Room k X.A) (hk : 1 ≤ k := by decide) (hst : starEach [e1] X.env = (false, eval e1 X.env) :: starEach [] X.env := by rfl) (hpl : (backTo pos (starEach [] X.env)).any (·.1) = false := by rfl)
    (htr : eval (.Call (.Attribute o "keep" apos) [e1] [] pos) X.env = (do
      let ov ← eval o X.env
      standAt apos.atName
      let (f, first) ← holding [ov] (getMethod ov "keep" pl)
      callWith pos f first (backTo pos (starEach [e1] X.env)) (backToKw pos (keywordEach [] X.env))) := by rfl) : RE X (.Call (.Attribute o "keep" apos) [e1] [] pos) σ H Q := by
  obtain ⟨f, fd, g1, g2, g3⟩ := K.ex
  refine RE.of (pe_meth (CX := CX0) (E := E0) re_pe hc g3 g1 (hr.mono hk) g2 .nil pass0 ra_pa hst hpl htr) (ho H (Same.refl _) _ fun x H1 s1 hx => ⟨s, dx, _, hx, s1 _ _ eb, rfl, (ea_d h1 ea_0 hst).1 H1 s1 _ fun vs H2 s2 kk => ?_⟩)
  obtain ⟨v, rfl, hv⟩ := pd1 kk
  rw [List.append_nil, show x = .ref s from hx]
  have s12 := s1.trans s2
  exact ⟨s, dx, rd, pd, ns, deed, v, ps, rfl, hv, s12 _ _ eb, s12 _ _ er, s12 _ _ ep, hrp, hl, fun H' T c u z => q H' T c u ((same_rm s12).trans z)⟩
end
def spDo (C : Addr) : Sp := fun vs H Q _ => ∃ (b dx rd pd : Addr) (cr : List Int) (w : List Nat), vs = [.ref b, .str (txt w)] ∧ H b = some (.ins C dx (bFs rd pd)) ∧ H rd = some (.lst ((cr ++ [0]).map V.int)) ∧ H pd = some (.lst []) ∧ rd ≠ pd ∧ 1 ≤ cr.length ∧ cr.length ≤ 6 ∧ Word cr.length w ∧ w.length ≤ 8 ∧
  ∀ H' T c u v, Same (rm (rm H pd) rd) H' → H' rd = some (.lst ((w.foldl stepL (cr ++ [0])).map V.int)) → H' pd = some (.lst [.ref T]) → H' T = some (.tup [.ref c, u]) → Im H' (doD w) u → Q v H'
abbrev KDo (m : Md) (C : Addr) := KmG m C "do" ["self", "work"] 3 (spDo C)
theorem scDo : FnScope ["self", "work", "ahead", "door"] ["self", "work"] (defScope sDo) := ⟨rfl, rfl, rfl, by decide +kernel, rfl, by decide +kernel, by decide +kernel⟩
theorem kn_do {m : Md} {C : Addr} (T : Tx m) (BT : Bch m C) (K1 : KNeedWork m) (K2 : KKeep m C) (K3 : KDoorsOf m) (K4 : KStep m) : KDo m C := by
  obtain ⟨f, fd, h1, h2, h3⟩ := BT.do_.ex
  refine ⟨f, fd, ?_, h2, h3⟩
  refine h1.ok scDo (fun vs H Q E ⟨_, _, _, _, _, _, e, _⟩ => by rw [e]; rfl) fun cdv A outer s H vs Q E hr hsp => ?_
  obtain ⟨b, dx, rd, pd, cr, w, rfl, eb, er, ep, hrp, l1, l6, W, hw, q⟩ := hsp
  have hr : Room 2 (cxD m ["self", "work", "ahead", "door"] "Bench.do" sDo f ⟨cdv, A, outer, s, H, E⟩).A := hr
  have nd : (cxD m ["self", "work", "ahead", "door"] "Bench.do" sDo f ⟨cdv, A, outer, s, H, E⟩).N.Nodup := scDo.nd
  refine ⟨RSs (cxD m ["self", "work", "ahead", "door"] "Bench.do" sDo f ⟨cdv, A, outer, s, H, E⟩) (defBody sDo), rss_pss, ?_⟩
  have G : Good H H (L2.start ["self", "work", "ahead", "door"] [V.ref b, .str (txt w)]) [.raw (.ref b), .dat (.str (txt w)), .un, .un] :=
    (start_good (N := ["self", "work", "ahead", "door"]) (ss := [.raw (.ref b), .dat (.str (txt w))]) (by show 2 ≤ 4; decide) (.cons ⟨rfl, rfl⟩ (.cons ⟨rfl, _, rfl, im_str _⟩ .nil)))
  have iL : ∀ {H' : Hp} (ns : List Int), ImAll H' (ns.map PyData.int) (ns.map V.int) := fun ns => imAll_map (fun x => im_int x) ns
  refine rss_expr (ed_call K1 (as_d (ED.to (ed_sub (lenL (n := cr.length + 1) (by rfl) T.len (EX.er (ex_fld (vx 0) eb BT.cls BT.nR rfl) er (iL _)) (by simp)) ed_int) (show PyData.int (((cr.length + 1 : Nat) : Int) - 1) = .int ((cr.length : Nat) : Int) by congr 1; omega)) (as_d (vd 1) as_0)) ⟨cr.length, w, rfl, l1, l6, W, by omega, rfl⟩) fun H1 G => ?_
  have s1 : Same H H1 := G.same
  refine rss_exprE (re_keep (ns := cr ++ [0]) (ps := []) (deed := doD w) K2 BT.cls (vx 0) (ed_tup (ds := [.str _, .str _]) (ea_d ed_str (ea_d (vd 1) ea_0))) (s1 _ _ eb) (s1 _ _ er) (s1 _ _ ep) hrp (by simp) (fun H2 T' c u z2 ep2 eT iu => ?_) hr)
  have ne1 : ∀ xs, H1 pd ≠ some (.tup xs) := fun xs z => by rw [s1 _ _ ep] at z; cases z
  have tk2 : Tk H1 H2 := fun a ys h => z2 a _ (by rw [rm_ne (fun z => ne1 ys (by rw [← z]; exact h))]; exact h)
  have hbp : b ≠ pd := fun z => by rw [z, ep] at eb; cases eb
  have hbr : b ≠ rd := fun z => by rw [z, er] at eb; cases eb
  have eb2 := z2 _ _ (show rm H1 pd b = _ by rw [rm_ne hbp]; exact s1 _ _ eb)
  have er2 := z2 _ _ (show rm H1 pd rd = _ by rw [rm_ne hrp]; exact s1 _ _ er)
  have G2 : Good H2 H2 (L2.start ["self", "work", "ahead", "door"] [V.ref b, .str (txt w)]) [.raw (.ref b), .dat (.str (txt w)), .un, .un] := ((G.less (B := rm H pd) rm_le).tk ((same_rm s1).trans z2) tk2).here
  refine rss_set (d := .int 0) 2 (ed_ixM1 (ds := cr.map PyData.int) (ER.to (EX.er (ex_fld (vx 0) eb2 BT.cls BT.nR rfl) er2 (iL _)) (by rw [List.map_append]; rfl)) (ed_neg ed_int)) fun σ3 H3 G3 => ?_
  have s3 : Same H2 H3 := G3.same
  have G3 := G3.less (rm_le (l := rd))
  refine rss_for (pi_list re_pe) (pg_name (i := 3) nd rfl (Or.inl rfl) (.inl rfl)) PassesOwn.never rfl ?_ (fun R R' k h => RE.imp h fun v H1 ⟨a, e1, q, r⟩ => ⟨a, e1, q, k _ _ r⟩) (by intro _; rfl)
  refine (en_call (X := cxD m ["self", "work", "ahead", "door"] "Bench.do" sDo f ⟨cdv, A, outer, s, H, E⟩) K3 (as_d (vd 1) as_0) ⟨w, rfl, W.up l6, by omega, rfl⟩) _ (Same.refl _) _ fun v4 H4 s4 ⟨l, vs, e4, n4, g4, i4⟩ => ⟨l, e4, ⟨vs, SqL.of g4⟩, ?_⟩
  have evs : vs = (w.map fun (d : Nat) => (d : Int)).map V.int := by
    have : intsOf w = (w.map fun (d : Nat) => (d : Int)).map PyData.int := by unfold intsOf; rw [List.map_map]; rfl
    rw [this] at i4
    exact i4.ints
  have s34 := s3.trans s4
  have er4 := s34 _ _ er2
  have hlr : l ≠ rd := fun z => by rw [z, (s3 _ _ er2)] at n4; cases n4
  have G4 := G3.mono s4
  have G4' : Good (rm H4 rd) H4 σ3 [.raw (.ref b), .dat (.str (txt w)), .dat (.int 0), .un] := G4.here.less rm_le
  have hvl : vs.length = w.length := by rw [evs, List.length_map, List.length_map]
  refine ⟨vs.length, _, _, fun i σ' H' => Good (rm H4 rd) H' σ' [.raw (.ref b), .dat (.str (txt w)), .dat (.int 0), .un] ∧ H' rd = some (.lst (((w.take i).foldl stepL (cr ++ [0])).map V.int)), walk_list, ⟨G4', er4⟩, fun i σ' H' _ ⟨g, _⟩ => SqL.of (g.same _ _ (by rw [rm_ne hlr]; exact g4)), fun i x σ' H' H'' hi ⟨g, e⟩ ⟨eH, ex⟩ => ?_, fun σ' H' ⟨g, e⟩ => ?_⟩
  · subst eH
    have hi2 : i < w.length := by omega
    have exx : x = .int ((w.getD i 0 : Nat) : Int) := by
      rw [evs, List.getElem?_map, List.getElem?_map, getElem?_D (d := 0) hi2] at ex
      injection ex with ex
      exact ex.symm
    subst exx
    have g1 := g.setD 3 (im_int ((w.getD i 0 : Nat) : Int))
    have hd := W.at hi2
    refine rss_exprE (re_stepV (l := rd) (d := w.getD i 0) K4 (ex_fld (vx 0) (g.same _ _ (by rw [rm_ne hbr]; exact s34 _ _ eb2)) BT.cls BT.nR rfl) (vd 3) e (by rw [stepF_len, List.length_append]; show _ < _ + 1; omega) (fun H6 H7 v s6 z7 => rss_nil ⟨?_, ?_⟩) hr)
    · have ne6 : ∀ xs, H6 rd ≠ some (.tup xs) := fun xs z => by rw [s6 _ _ e] at z; cases z
      exact (g1.tk ((same_rm' (g1.same.trans s6)).trans (rm_upd.trans z7)) ((Tk.of s6).trans ((Tk.upd ne6).trans (Tk.of z7)))).wk
    · rw [foldl_take (d := 0) hi2]
      exact z7 _ _ upd_same
  · rw [hvl, List.take_length] at e
    have ebF := g.same _ _ (show rm H4 rd b = _ by rw [rm_ne hbr]; exact s34 _ _ eb2)
    have hne : w.foldl stepL (cr ++ [0]) ≠ [] := fun z => by
      have := stepF_len w (cr ++ [0])
      rw [z, List.length_append] at this
      simp at this
    have esp : (w.foldl stepL (cr ++ [0])).map PyData.int = (w.foldl stepL (cr ++ [0])).dropLast.map PyData.int ++ [.int ((w.foldl stepL (cr ++ [0])).getLast hne)] := by
      conv => lhs; rw [← List.dropLast_concat_getLast hne]
      rw [List.map_append]
      rfl
    refine rss_ret (ed_sub (ed_ixM1 (ER.to (EX.er (ex_fld (vx 0) ebF BT.cls BT.nR rfl) e (iL _)) esp) (ed_neg ed_int)) (vd 2)) fun v H8 s8 r8 => ?_
    have hTr : T' ≠ rd := fun z => by rw [z, er2] at eT; cases eT
    have zz : Same (rm H2 rd) H8 := (same_rm s34).trans (g.same.trans s8)
    have tk8 : Tk H2 H8 := fun a ys h => zz a _ (by rw [rm_ne (fun z => by rw [z, er2] at h; cases h)]; exact h)
    refine q H8 T' c u v ?_ (s8 _ _ e) (zz _ _ (by rw [rm_ne (Ne.symm hrp)]; exact ep2)) (tk8 _ _ eT) (iu.mono tk8)
    exact (same_rm ((same_rm s1).trans z2)).trans zz
/-! ### crowd, steps -/
def spBCrowd (C : Addr) : Sp := fun vs H Q _ => ∃ (b dx rd pd : Addr) (ns : List Int), vs = [.ref b] ∧ H b = some (.ins C dx (bFs rd pd)) ∧ H rd = some (.lst (ns.map V.int)) ∧ ∀ H' v, Same H H' → Im H' (rowD ns.dropLast) v → Q v H'
abbrev KBCrowd (m : Md) (C : Addr) := KmG m C "crowd" ["self"] 1 (spBCrowd C)
theorem scBCrowd : FnScope ["self"] ["self"] (defScope sBCrowd) := ⟨rfl, rfl, rfl, by decide +kernel, rfl, by decide +kernel, by decide +kernel⟩
theorem kn_bcrowd {m : Md} {C : Addr} (T : Tx m) (BT : Bch m C) : KBCrowd m C := by
  obtain ⟨f, fd, h1, h2, h3⟩ := BT.crowd.ex
  refine ⟨f, fd, ?_, h2, h3⟩
  refine h1.ok scBCrowd (fun vs H Q E ⟨_, _, _, _, _, e, _⟩ => by rw [e]; rfl) fun cdv A outer s H vs Q E hr hsp => ?_
  obtain ⟨b, dx, rd, pd, ns, rfl, eb, er, q⟩ := hsp
  have nd : (cxD m ["self"] "Bench.crowd" sBCrowd f ⟨cdv, A, outer, s, H, E⟩).N.Nodup := scBCrowd.nd
  refine ⟨RSs (cxD m ["self"] "Bench.crowd" sBCrowd f ⟨cdv, A, outer, s, H, E⟩) (defBody sBCrowd), rss_pss, ?_⟩
  have G : Good H H (L2.start ["self"] [V.ref b]) [.raw (.ref b)] := (start_good (N := ["self"]) (ss := [.raw (.ref b)]) (by show 1 ≤ 1; decide) (.cons ⟨rfl, rfl⟩ .nil))
  refine rss_ret (ED.to (ed_tupleL (by rfl) T.tuple (ev_slL (EX.er (ds := ns.map PyData.int) (ex_fld (vx 0) eb BT.cls BT.nR rfl) er (imAll_map (fun x => im_int x) ns)) eo_n (eo_s (ed_neg ed_int))).er) (show PyData.tuple (cutD (ns.map PyData.int) none (some (-1))) = rowD ns.dropLast by rw [cut_last, ← List.map_dropLast]; rfl)) fun v H1 s1 r => ?_
  exact q H1 v s1 r
def spSteps (C : Addr) : Sp := fun vs H Q _ => ∃ (b dx rd pd T c : Addr) (u : V) (deed : PyData), vs = [.ref b] ∧ H b = some (.ins C dx (bFs rd pd)) ∧ H pd = some (.lst [.ref T]) ∧ H T = some (.tup [.ref c, u]) ∧ Im H deed u ∧ ∀ H' l, Same H H' → H l = none → H' l = some (.lst [u]) → Q (.ref l) H'
abbrev KSteps (m : Md) (C : Addr) := KmG m C "steps" ["self"] 1 (spSteps C)
theorem scSteps : FnScope ["self", "rows", "deed"] ["self"] (defScope sSteps) := ⟨rfl, rfl, rfl, by decide +kernel, rfl, by decide +kernel, by decide +kernel⟩
theorem kn_steps {m : Md} {C : Addr} (T : Tx m) (BT : Bch m C) : KSteps m C := by
  obtain ⟨f, fd, h1, h2, h3⟩ := BT.steps.ex
  refine ⟨f, fd, ?_, h2, h3⟩
  refine h1.ok scSteps (fun vs H Q E ⟨_, _, _, _, _, _, _, _, e, _⟩ => by rw [e]; rfl) fun cdv A outer s H vs Q E hr hsp => ?_
  obtain ⟨b, dx, rd, pd, T', c, u, deed, rfl, eb, ep, eT, iu, q⟩ := hsp
  have nd : (cxD m ["self", "rows", "deed"] "Bench.steps" sSteps f ⟨cdv, A, outer, s, H, E⟩).N.Nodup := scSteps.nd
  refine ⟨RSs (cxD m ["self", "rows", "deed"] "Bench.steps" sSteps f ⟨cdv, A, outer, s, H, E⟩) (defBody sSteps), rss_pss, ?_⟩
  have G : Good H H (L2.start ["self", "rows", "deed"] [V.ref b]) [.raw (.ref b), .un, .un] := (start_good (N := ["self", "rows", "deed"]) (ss := [.raw (.ref b)]) (by show 1 ≤ 3; decide) (.cons ⟨rfl, rfl⟩ .nil))
  refine rss_cons (RS.of (ps_ret re_pe) (re_lc (own := [("rows", 1), ("deed", 2)]) (lc_w (g := gTup m.K 2 (gCons (gName 1) (gCons (gName 2) gNil))) (pi_list re_pe) (blkOk_by (N := ["self", "rows", "deed"]) (sc := defScope sSteps) (by decide +kernel)) (fun s H C cl fp => pg2 (X := Cx.blk _ _ _ _ _ _) 1 2 nd rfl rfl (Or.inl rfl) (.inr rfl) rfl (Or.inl rfl) (.inr rfl) rfl rfl rfl rfl) (by intro _; rfl) (fun R R' k h => RE.imp h fun v H1 ⟨a, e1, q, r⟩ => ⟨a, e1, q, k _ _ r⟩) ?_) nd rfl))
  refine (ex_fld (vx 0) eb BT.cls BT.nP rfl : EX _ _ _ _ (.ref pd)) _ (Same.refl _) _ fun v1 H1 s1 e1 => ⟨pd, e1, ⟨_, SqL.of (s1 _ _ ep)⟩, fun D hD => ?_⟩
  have hDp : ∀ {H' : Hp}, Same H1 H' → H' pd = some (.lst [.ref T']) := fun z => z _ _ (s1 _ _ ep)
  refine ⟨1, _, _, fun i H' => Same H1 H' ∧ H' D = some (.lst (if i = 0 then [] else [u])), walk_list (xs := [V.ref T']), ⟨Same.new hD, by rw [upd_same]; rfl⟩, fun i H' _ ⟨z, _⟩ => SqL.of (hDp z), fun i x H' H'' hi ⟨z, eD⟩ ⟨eH, ex⟩ => ?_, fun H' ⟨z, eD⟩ => ?_⟩
  · subst eH
    have i0 : i = 0 := by omega
    subst i0
    have ex : x = .ref T' := by
      have : some (V.ref T') = some x := ex
      injection this with this
      exact this.symm
    subst ex
    have eT2 := z _ _ (s1 _ _ eT)
    refine ⟨T', [.ref c, u], rfl, SqT.of eT2, rfl, .ref c, [u], rfl, u, [], rfl, rfl, wipe_set2 (by decide) (by decide), fun s0 H0 C cl fp => ?_⟩
    have Gb := (((G.mono (s1.trans z)).wiped [1, 2]).set 1 (sl := .un) (v := .ref c) trivial rfl).set 2 (sl := .raw u) (v := u) rfl rfl
    refine (vx (X := Cx.blk _ _ _ _ _ _) 2 (G := Gb) : EX _ _ _ _ u) _ (Same.refl _) _ fun y H3 s3 hy => ?_
    rw [show y = u from hy]
    refine ⟨_, s3 _ _ eD, smallL _ (by show 0 ≤ 100000; omega), same_updN (z.trans s3) hD, by rw [upd_same]; rfl⟩
  · exact q H' D (s1.trans z) (s1.free hD) eD
end Dw
/-! Dw: lambdas that capture names: made -/
namespace Dw
open PySem PySem.Spec PyProof.Rows L2 LamX
/-- a lambda's words -/
structure LW where
  params : Arguments
  body : Expr
  scope : Scope
/-- the object at f is that lambda -/
def LObj (q : Str) (cl : List (Str × Addr)) (L : LW) (dV : Value) (c' f : Addr) : HO := .ext fun h => ∃ (od : Option Addr) (sl : Array (Option Value)) (doc pm ctv : Value),
  h.get? f = some (⟨.type "function", od, .func (PySem.W.kdv_fn "<lambda>" q L.params (.expr L.body) L.scope cl dV doc pm (.ref c') ctv), sl⟩ : Obj)
/-- its defaults: none, or a tuple -/
def DfAt (H : Hp) (dV : Value) : Option V → Prop
  | none => dV = .none
  | some v => ∃ T, dV = .ref T ∧ H T = some (.tup [v])
def LamAt (H : Hp) (q : Str) (cells : List (Str × Addr)) (L : LW) (d : Option V) (f : Addr) : Prop :=
  ∃ dV c', H f = some (LObj q (cloFrom cells L.scope.names []) L dV c' f) ∧ H c' = some (CodeO c' q) ∧ DfAt H dV d
theorem lobj_ne {q : Str} {cl : List (Str × Addr)} {L : LW} {dV : Value} {c' f : Addr} (ps : Array Value) : LObj q cl L dV c' f ≠ .tbl ps := fun z => by
  unfold LObj at z
  cases z
theorem LamAt.ext {H H' : Hp} {q : Str} {cells : List (Str × Addr)} {L : LW} {d : Option V} {f : Addr} (h : LamAt H q cells L d f) (e : ExtN H H') : LamAt H' q cells L d f := by
  obtain ⟨dV, c', h1, h2, h3⟩ := h
  refine ⟨dV, c', e _ _ h1 lobj_ne, e _ _ h2 codeO_ne, ?_⟩
  cases d with
  | none => exact h3
  | some v =>
    obtain ⟨T, e1, e2⟩ := h3
    exact ⟨T, e1, e _ _ e2 fun ps z => by cases z⟩
theorem ExtN.same {H H' : Hp} (s : Same H H') : ExtN H H' := ExtN.of fun b o e => s b o e
section
variable {X : Cx} {pins : List (Addr × Obj)} {σ : L2.St} {H : Hp} {s : Shared}
theorem inv_lam {q : Str} {cl : List (Str × Addr)} {L : LW} {dV : Value} {c' : Addr} {o : Obj} {t' : Nat} {doc pm ctv : Value} (I : Inv X pins σ H s)
    (ho : o = { cls := .type "function", data := .func (PySem.W.kdv_fn "<lambda>" q L.params (.expr L.body) L.scope cl dV doc pm (.ref c') ctv) }) :
    Inv X pins σ (upd H s.heap.objs.size (LObj q cl L dV c' s.heap.objs.size)) { s with heap := s.heap.push o, toks := t' } := by
  subst ho
  refine I.laid (a := s.heap.objs.size) (fun b u e => Heap.get?_push_of_some _ e) (Nat.le_refl _) ?_
  have e : (s.heap.push ({ cls := .type "function", data := .func (PySem.W.kdv_fn "<lambda>" q L.params (.expr L.body) L.scope cl dV doc pm (.ref c') ctv) } : Obj)).get? s.heap.objs.size = some ({ cls := .type "function", data := .func (PySem.W.kdv_fn "<lambda>" q L.params (.expr L.body) L.scope cl dV doc pm (.ref c') ctv) } : Obj) := Heap.get?_push_size _ rfl
  exact ⟨⟨_, _, doc, pm, ctv, e⟩, ⟨_, e⟩, fun h1 h2 ⟨od, sl, d, p, t, z⟩ st => ⟨od, sl, d, p, t, st _ z⟩⟩
/-- the lambda's object is made, its defaults lie at dV -/
theorem lam_tail {c P : Addr} {L : LW} {dV : Value} {d : Option V} {pos : Pos} {E : Value → Shared → Prop} {Q : Value → Shared → Prop} (I : Inv X pins σ H s) (TB : TabB X.base X.mg c P) (hcode : X.env.code = .ref c)
    (hT : TabS H P (X.env.qual ++ "<lambda>")) (hfree : ∀ y ∈ L.scope.names, y.2 = .free → ∃ c, X.env.cells.lookup y.1 = some c) (hd : DfAt H dV d)
    (h : ∀ (f : Addr) (H1 : Hp) (s' : Shared), Inv X pins σ H1 s' → ExtN H H1 → TabS H1 P (X.env.qual ++ "<lambda>") → H f = none → LamAt H1 (X.env.qual ++ "<lambda>") X.env.cells L d f → Q (.ref f) s') :
    wpAny (model X.prog X.w) X.A (makeTail "<lambda>" (X.env.qual ++ "<lambda>") L.params (.expr L.body) L.scope X.env dV .none none pos pos.line) Q E s := by
  obtain ⟨ps, hP, ht, ha⟩ := hT
  have bP : s.heap.BuiltinsAt X.mg P := TB.bm.keeps I.bk
  have hP' : s.heap.get? P = some { cls := .none, data := .fields ps } := I.hok P _ hP
  cases hc : codeAmong pos ps.toList with
  | none =>
    refine PySem.W.kdv_makeTail (mg := X.mg) (c := c) (P := P) (ps := ps) (closure_ok hfree) I.ok.glob (I.mod.glob.keeps I.bk) hcode (TB.code.keeps I.bk) hP' ht hc TB.gP bP fun c' ctv doc h' tk hx hge hlt hrec htb => ?_
    obtain ⟨c2, oc, vs, t, e2, hoc, hd', hv⟩ := hrec
    cases e2
    have nC : H c' = none := I.hok.fresh hge
    have I1 := inv_table (t' := tk) (more := #[rawInt pos.line, rawInt pos.col, .ref c']) (h' := h') I hP (fun b o hb e => hx b o hb e) htb hge ⟨oc, vs, t, hoc, hd', hv⟩
    have hE : ExtN H (upd (upd H P (.tbl (ps ++ #[rawInt pos.line, rawInt pos.col, .ref c']))) c' (CodeO c' (X.env.qual ++ "<lambda>"))) := fun b o e n => by
      rw [upd_ne (ne_of_none e nC), upd_ne (fun z => n ps (Option.some.inj (e.symm.trans (by rw [z]; exact hP))))]
      exact e
    have eL : (ps ++ #[rawInt pos.line, rawInt pos.col, .ref c']).toList = ps.toList ++ [rawInt pos.line, rawInt pos.col, .ref c'] := by simp
    have T1 : TabS (upd (upd H P (.tbl (ps ++ #[rawInt pos.line, rawInt pos.col, .ref c']))) c' (CodeO c' (X.env.qual ++ "<lambda>"))) P (X.env.qual ++ "<lambda>") := by
      refine ⟨_, by rw [upd_ne (ne_of_none hP nC), upd_same], by rw [eL]; exact PySem.TriplesOk_snoc _ _ _ _ ht, fun p' cv hcv => ?_⟩
      rw [eL] at hcv
      rcases among_app _ ht hcv with z | z
      · obtain ⟨c0, e1, e2⟩ := ha p' cv z
        exact ⟨c0, e1, hE _ _ e2 codeO_ne⟩
      · exact ⟨c', z, upd_same⟩
    have nF := I1.hok.fresh (Nat.le_refl _)
    have I2 := inv_lam (q := X.env.qual ++ "<lambda>") (cl := cloFrom X.env.cells L.scope.names []) (L := L) (dV := dV) (c' := c') (t' := tk) (doc := doc) (pm := (X.mg "__name__").getD .none) (ctv := ctv) I1 rfl
    have E2 := ExtN.trans hE (ExtN.same (Same.new (o := LObj (X.env.qual ++ "<lambda>") (cloFrom X.env.cells L.scope.names []) L dV c' h'.objs.size) nF))
    refine h h'.objs.size _ _ I2 E2 (T1.ext (Same.new nF)) (I.hok.fresh (Nat.le_trans hge (Nat.le_of_lt hlt))) ⟨dV, c', upd_same, ?_, ?_⟩
    · exact (upd_ne (Nat.ne_of_lt hlt)).trans upd_same
    · cases d with
      | none => exact hd
      | some v =>
        obtain ⟨T, e1, e2⟩ := hd
        exact ⟨T, e1, E2 _ _ e2 fun ps z => by cases z⟩
  | some cv =>
    obtain ⟨c', e, hco⟩ := ha pos cv hc
    subst e
    refine PySem.W.kdv_makeTailHit (mg := X.mg) (c := c) (P := P) (ps := ps) (closure_ok hfree) I.ok.glob (I.mod.glob.keeps I.bk) hcode (TB.code.keeps I.bk) hP' ht hc bP fun ctv doc h' tk hx hsz => ?_
    have I1 : Inv X pins σ H { s with heap := h', toks := tk } := I.kept hx
    have nF : H h'.objs.size = none := I1.hok.fresh (Nat.le_refl _)
    have I2 := inv_lam (q := X.env.qual ++ "<lambda>") (cl := cloFrom X.env.cells L.scope.names []) (L := L) (dV := dV) (c' := c') (t' := tk) (doc := doc) (pm := (X.mg "__name__").getD .none) (ctv := ctv) I1 rfl
    refine h h'.objs.size _ _ I2 (ExtN.same (Same.new nF)) (TabS.ext ⟨ps, hP, ht, ha⟩ (Same.new nF)) nF ⟨dV, c', upd_same, ?_, ?_⟩
    · exact (upd_ne (ne_of_none hco nF)).trans hco
    · cases d with
      | none => exact hd
      | some v =>
        obtain ⟨T, e1, e2⟩ := hd
        exact ⟨T, e1, Same.new nF _ _ e2⟩
/-- the reading of a lambda -/
def tLamM (X : Cx) (P : Addr) (L : LW) (d : Option V) : TE := fun σ H Q => TabS H P (X.env.qual ++ "<lambda>") ∧ ∀ f H1, ExtN H H1 → TabS H1 P (X.env.qual ++ "<lambda>") → H f = none → LamAt H1 (X.env.qual ++ "<lambda>") X.env.cells L d f → Q (.ref f) H1
theorem pe_lam0 {c P : Addr} {params : Arguments} {body : Expr} {scope : Scope} {pos : Pos} (TB : TabB X.base X.mg c P) (hcode : X.env.code = .ref c) (hfree : ∀ y ∈ scope.names, y.2 = .free → X.env.scope.names.lookup y.1 = some .cell ∨ X.env.scope.names.lookup y.1 = some .free)
    (hdef : defaultsOf params X.env = ([], [])) : PE X (.Lambda params body scope pos) (tLamM X P ⟨params, body, scope⟩ none) := by
  refine ⟨fun pins s σ H Q I h => ?_⟩
  obtain ⟨hT, h⟩ := h
  refine PySem.W.kla_eval hdef ?_
  rw [makeFunction_eq]
  simp only [List.zip_nil_right, List.filterMap_nil, List.isEmpty_nil, if_true, pure_bind]
  have hfr : ∀ y ∈ scope.names, y.2 = .free → ∃ c, X.env.cells.lookup y.1 = some c := fun y hy e => (hfree y hy e).elim (fun z => I.ok.has _ (.inl z)) fun z => I.ok.has _ (.inr z)
  exact lam_tail (L := ⟨params, body, scope⟩) (d := none) I TB hcode hT hfr rfl fun f H1 s' I1 eN T1 nf hl => ⟨.ref f, H1, I1, rfl, h f H1 eN T1 nf hl⟩
theorem pe_lam1 {c P : Addr} {params : Arguments} {body : Expr} {scope : Scope} {pos p0 : Pos} {i : Int} {kk : Nat} (TB : TabB X.base X.mg c P) (hcode : X.env.code = .ref c) (hfree : ∀ y ∈ scope.names, y.2 = .free → X.env.scope.names.lookup y.1 = some .cell ∨ X.env.scope.names.lookup y.1 = some .free)
    (hdef : params.defaults = [.Constant (.int i) kk p0]) (hkw : params.kw_defaults = []) : PE X (.Lambda params body scope pos) (tLamM X P ⟨params, body, scope⟩ (some (.int i))) := by
  refine ⟨fun pins s σ H Q I h => ?_⟩
  obtain ⟨hT, h⟩ := h
  refine PySem.W.kdv_lam (by rw [hdef]; rfl) hkw ?_
  rw [hdef]
  refine PySem.W.kdv_all1 (thn (pe_int.run pins s σ H (fun v H1 => v = .int i ∧ H1 = H) I ⟨rfl, rfl⟩) fun u s1 ⟨v, H1, I1, r1, e1, e2⟩ => PySem.W.kdv_all0 ?_)
  subst e1
  rw [e2] at I1
  rw [makeFunction_eq]
  simp only [List.zip_nil_right, List.filterMap_nil, List.isEmpty_nil, List.isEmpty_cons, Bool.false_eq_true, if_false, if_true, pure_bind]
  refine wpAny_bind (wpAny_newTextTuple ?_)
  have nT : H s1.heap.objs.size = none := I1.hok.fresh (Nat.le_refl _)
  have I2 : Inv X pins σ (upd H s1.heap.objs.size (.tup [.int i])) { s1 with heap := s1.heap.push { cls := .type "tuple", data := .seq [u].toArray }, toks := s1.toks } := by
    refine I1.laid (a := s1.heap.objs.size) (fun b u e => Heap.get?_push_of_some _ e) (Nat.le_refl _) ⟨by show 1 ≤ 16777216; decide, [u], .cons r1 .nil, ?_⟩
    exact IsTup.new s1.heap _
  have hfr : ∀ y ∈ scope.names, y.2 = .free → ∃ c, X.env.cells.lookup y.1 = some c := fun y hy e => (hfree y hy e).elim (fun z => I.ok.has _ (.inl z)) fun z => I.ok.has _ (.inr z)
  refine lam_tail (L := ⟨params, body, scope⟩) (d := some (.int i)) I2 TB hcode (hT.ext (Same.new nT)) hfr ⟨_, rfl, upd_same⟩ fun f H1 s' I1 eN T1 nf hl => ⟨.ref f, H1, I1, rfl, h f H1 (ExtN.trans (ExtN.same (Same.new nT)) eN) T1 ((Same.new nT).free nf) hl⟩
end
end Dw
/-! Dw: cells that are known outside their frame; a lambda is called -/
namespace Dw
open PySem PySem.Spec PyProof.Rows L2 LamX
/-- the object at c is a cell that holds u -/
def CellX (c : Addr) (u : Value) : HO := .ext fun h => h.IsCell c (some u)
open Classical in
noncomputable def unC (cs : List Addr) (H : Hp) : Hp := fun b => if b ∈ cs then none else H b
open Classical in
noncomputable def reC (cs : List Addr) (H H' : Hp) : Hp := fun b => if b ∈ cs then H b else H' b
def CT (cs : List Addr) (H : Hp) : Prop := ∀ c ∈ cs, ∃ u, H c = some (CellX c u)
section
variable {P : Program} {w : World} {H H' : Hp} {h h' B : Heap} {cs fs : List Addr} {b : Addr}
theorem unC_in (e : b ∈ cs) : unC cs H b = none := by unfold unC; rw [if_pos e]
theorem unC_out (e : b ∉ cs) : unC cs H b = H b := by unfold unC; rw [if_neg e]
theorem reC_in (e : b ∈ cs) : reC cs H H' b = H b := by unfold reC; rw [if_pos e]
theorem reC_out (e : b ∉ cs) : reC cs H H' b = H' b := by unfold reC; rw [if_neg e]
theorem unC_none (e : H b = none) : unC cs H b = none := by
  unfold unC
  split
  · rfl
  · exact e
theorem CT.out {u : HO} (t : CT cs H) (e : H b = some u) (n : ∀ v, u ≠ CellX b v) : b ∉ cs := fun z => by
  obtain ⟨v, q⟩ := t b z
  rw [q] at e
  cases e
  exact n v rfl
theorem CT.none (t : CT cs H) (e : H b = Option.none) : b ∉ cs := fun z => by
  obtain ⟨v, q⟩ := t b z
  rw [q] at e
  cases e
theorem unC_same : ∀ a o, unC cs H a = some o → H a = some o := fun a o e => by
  by_cases c : a ∈ cs
  · rw [unC_in c] at e
    cases e
  · rw [unC_out c] at e
    exact e
theorem hok_un (t : CT cs H) (x : HOk P w H h) : HOk P w (unC cs H) h := fun b u e =>
  (x b u (unC_same b u e)).stay (fun c v _ q => q) (fun c q => by rw [unC_out (t.out q fun v z => by unfold CellX at z; cases z)]; exact q) fun c xs q => by rw [unC_out (t.out q fun v z => by unfold CellX at z; cases z)]; exact q
theorem cell_at (t : CT cs H) (x : HOk P w H h) (hc : b ∈ cs) : ∃ u, H b = some (CellX b u) ∧ h.IsCell b (some u) := by
  obtain ⟨u, e⟩ := t b hc
  obtain ⟨z, _, _⟩ := x b _ e
  exact ⟨u, e, z⟩
theorem hok_re (t : CT cs H) (x : HOk P w H h) (y : HOk P w H' B) (hn : ∀ c ∈ cs, H' c = Option.none) (k : ∀ c ∈ cs, ∀ o, h.get? c = some o → B.get? c = some o) : HOk P w (reC cs H H') B := fun b u e => by
  by_cases hb : b ∈ cs
  · rw [reC_in hb] at e
    obtain ⟨v, e2⟩ := t b hb
    rw [e] at e2
    cases e2
    obtain ⟨p, ⟨o, ho⟩, st⟩ := x b _ e
    exact ⟨st _ _ p (k b hb), ⟨o, k b hb _ ho⟩, st⟩
  · rw [reC_out hb] at e
    have no : ∀ c v, H' c = some v → c ∉ cs := fun c v q z => by rw [hn c z] at q; cases q
    exact (y b u e).stay (fun c v _ q => q) (fun c q => by rw [reC_out (no _ _ q)]; exact q) fun c xs q => by rw [reC_out (no _ _ q)]; exact q
theorem un_re (t : CT cs H) (u : Un fs [] (unC cs H) H' h h') : Un fs [] H (reC cs H H') h h' where
  keep := fun b o q n hb hx => u.keep b o q (unC_none n) hb hx
  slot := fun b o q n hb hx => u.slot b o q (unC_none n) hb hx
  free := fun b o q n hx => by rw [reC_out (t.none n)]; exact u.free b o q (unC_none n) hx
  there := u.there
  tups := fun b xs q => by
    have o := t.out q fun v z => by unfold CellX at z; cases z
    rw [reC_out o]
    exact u.tups b xs (by rw [unC_out o]; exact q)
  frzs := fun b ob xs q => by
    have o := t.out q fun v z => by unfold CellX at z; cases z
    rw [reC_out o]
    exact u.frzs b ob xs (by rw [unC_out o]; exact q)
  tbls := fun b ps q => by
    have o := t.out q fun v z => by unfold CellX at z; cases z
    rw [reC_out o]
    exact u.tbls b ps (by rw [unC_out o]; exact q)
theorem ub_re (t : CT cs H) (u : UB fs (unC cs H) H' h B h') : UB fs H (reC cs H H') h B h' where
  keep := fun b o q n hb => u.keep b o q (unC_none n) hb
  slot := u.slot
  free := fun b o q n => by rw [reC_out (t.none n)]; exact u.free b o q (unC_none n)
  there := u.there
  tups := fun b xs q => by
    have o := t.out q fun v z => by unfold CellX at z; cases z
    rw [reC_out o]
    exact u.tups b xs (by rw [unC_out o]; exact q)
  frzs := fun b ob xs q => by
    have o := t.out q fun v z => by unfold CellX at z; cases z
    rw [reC_out o]
    exact u.frzs b ob xs (by rw [unC_out o]; exact q)
  tbls := fun b ps q => by
    have o := t.out q fun v z => by unfold CellX at z; cases z
    rw [reC_out o]
    exact u.tbls b ps (by rw [unC_out o]; exact q)
theorem env0_un {K : PySem.W.Frag} {mg : Str → Option Value} {base : Heap} {A : Around} {outer : List Env} {s : Shared} (t : CT cs H) (e : Env0 P w K mg base A outer s H) : Env0 P w K mg base A outer s (unC cs H) :=
  ⟨e.frames, e.mod, fun b o q => ⟨(e.bs b o q).1, unC_none (e.bs b o q).2⟩, e.bsz, e.funs, fun b hb => unC_none (e.frf b hb), hok_un t e.hok, e.bare⟩
theorem cr_re {K : PySem.W.Frag} {mg : Str → Option Value} {base : Heap} {A : Around} {outer : List Env} {s s' : Shared} {Q : VK} {E : XK} {r : Result} (t : CT cs H) (e0 : Env0 P w K mg base A outer s H)
    (c : CR (L2.CX P w) outer P w (unC cs H) s (fun v H' => Q v (reC cs H H')) (fun cls d H' => E cls d (reC cs H H')) r s') : CR (L2.CX P w) outer P w H s Q E r s' := by
  have nf : ∀ c ∈ cs, c ∉ frs outer := fun c hc hf => by
    obtain ⟨u, q⟩ := t c hc
    rw [e0.frf c hf] at q
    cases q
  cases r with
  | error e =>
    obtain ⟨a, B, H', cls, d, rfl, fl, hok, ub, na, os, ag, hE⟩ := c
    have k : ∀ c ∈ cs, ∀ o, s.heap.get? c = some o → B.get? c = some o := fun c hc o q => ub.keep c o q (unC_in hc) (nf c hc)
    have hn : ∀ c ∈ cs, H' c = none := fun c hc => by
      obtain ⟨u, _, o, ho, _⟩ := cell_at t e0.hok hc
      exact ub.free c o ho (unC_in hc)
    have ac : a ∉ cs := fun z => by
      obtain ⟨u, _, o, ho, _⟩ := cell_at t e0.hok z
      have q := k a z o ho
      rw [fl.2.1] at q
      cases q
    exact ⟨a, B, reC cs H H', cls, d, rfl, fl, hok_re t e0.hok hok hn k, ub_re t ub, by rw [reC_out ac]; exact na, os, ag, hE⟩
  | ok fl =>
    cases fl with
    | ret u =>
      obtain ⟨v, H', os, ag, un, hok, rv, q⟩ := c
      have k : ∀ c ∈ cs, ∀ o, s.heap.get? c = some o → s'.heap.get? c = some o := fun c hc o q => un.keep c o q (unC_in hc) (nf c hc) (by simp)
      have hn : ∀ c ∈ cs, H' c = none := fun c hc => by
        obtain ⟨u, _, o, ho, _⟩ := cell_at t e0.hok hc
        exact un.free c o ho (unC_in hc) (by simp)
      exact ⟨v, reC cs H H', os, ag, un_re t un, hok_re t e0.hok hok hn k, rv, q⟩
    | next => exact c.elim
    | brk => exact c.elim
    | cont => exact c.elim
end
/-- what is tracked without the cells grows: so with them -/
theorem same_re {H H' : Hp} {cs : List Addr} (t : CT cs H) (s : Same (unC cs H) H') : Same H (reC cs H H') := fun b o e => by
  by_cases c : b ∈ cs
  · rw [reC_in c]
    exact e
  · rw [reC_out c]
    exact s b o (by rw [unC_out c]; exact e)
end Dw
/-! Dw: a lambda that captured names is called -/
namespace Dw
open PySem PySem.Spec PyProof.Rows L2 LamX
/-- a lambda's own names: its parameters; those of N it captured -/
structure LwS (N ps : List Str) (sc : Scope) : Prop where
  kind : sc.kind = .function
  co : sc.isCoroutine = false
  gen : sc.isGenerator = false
  nocell : ∀ y ∈ sc.names, y.2 ≠ .cell
  free : ∀ y ∈ sc.names, y.2 = .free → y.1 ∈ N
  par : ∀ x ∈ ps, sc.names.lookup x = some .local
  noloc : ∀ x ∈ N, sc.names.lookup x ≠ some .local
def lwB (N ps : List Str) (sc : Scope) : Bool :=
  decide (sc.kind = .function) && !sc.isCoroutine && !sc.isGenerator && sc.names.all (fun y => !decide (y.2 = .cell)) && sc.names.all (fun y => !decide (y.2 = .free) || decide (y.1 ∈ N)) && ps.all (fun x => decide (sc.names.lookup x = some .local)) && N.all (fun x => !decide (sc.names.lookup x = some .local))
theorem lwS_by {N ps : List Str} {sc : Scope} (h : lwB N ps sc = true) : LwS N ps sc := by
  unfold lwB at h
  simp only [Bool.and_eq_true, Bool.not_eq_true', decide_eq_true_eq, List.all_eq_true, Bool.or_eq_true, decide_eq_false_iff_not] at h
  obtain ⟨⟨⟨⟨⟨⟨h1, h2⟩, h3⟩, h4⟩, h5⟩, h6⟩, h7⟩ := h
  exact ⟨h1, h2, h3, h4, fun y hy e => (h5 y hy).elim (fun z => absurd e z) id, h6, h7⟩
/-- its parameters take their defaults -/
def BindL (L : LW) : Option V → List Str → Prop
  | none, ps => ps = [] ∧ ∀ (s : Shared) (q : Str) (cl : List (Str × Addr)) (doc pm cdv ctv : Value), BindsTo s (PySem.W.kdv_fn "<lambda>" q L.params (.expr L.body) L.scope cl .none doc pm cdv ctv) ⟨[], []⟩ []
  | some _, ps => ∃ x, ps = [x] ∧ ∀ (s : Shared) (q : Str) (cl : List (Str × Addr)) (doc pm cdv ctv : Value) (T : Addr) (o : Obj) (u : Value) (n : Nat), s.heap.get? T = some o → o.data = .seq #[u] n →
      BindsTo s (PySem.W.kdv_fn "<lambda>" q L.params (.expr L.body) L.scope cl (.ref T) doc pm cdv ctv) ⟨[], []⟩ [(x, u)]
/-- the addresses -/
def csOf (cells : List (Str × Addr)) (N : List Str) : List Addr := N.filterMap fun y => cells.lookup y
/-- the cells of a frame that has ended: what they hold -/
structure CelT (cells : List (Str × Addr)) (N : List Str) (ws : List V) (H : Hp) : Prop where
  len : ws.length = N.length
  inj : ∀ x y c, cells.lookup x = some c → cells.lookup y = some c → x = y
  has : ∀ (i : Nat) (y : Str) (v : V), N[i]? = some y → ws[i]? = some v → ∃ c u, cells.lookup y = some c ∧ L2.RelV v u ∧ H c = some (CellX c u)
theorem cellX_ne {c : Addr} {u : Value} (ps : Array Value) : CellX c u ≠ .tbl ps := fun z => by
  unfold CellX at z
  cases z
theorem CelT.ext {cells : List (Str × Addr)} {N : List Str} {ws : List V} {H H' : Hp} (C : CelT cells N ws H) (e : ExtN H H') : CelT cells N ws H' :=
  ⟨C.len, C.inj, fun i y v e1 e2 => let ⟨c, u, a1, a2, a3⟩ := C.has i y v e1 e2; ⟨c, u, a1, a2, e _ _ a3 cellX_ne⟩⟩
theorem mem_cells {cells : List (Str × Addr)} {N : List Str} {y : Str} {c : Addr} (hy : y ∈ N) (h : cells.lookup y = some c) : c ∈ csOf cells N := List.mem_filterMap.mpr ⟨y, hy, h⟩
theorem CelT.all {cells : List (Str × Addr)} {N : List Str} {ws : List V} {H : Hp} (C : CelT cells N ws H) : CT (csOf cells N) H := fun c hc => by
  obtain ⟨y, hy, e⟩ := List.mem_filterMap.mp hc
  obtain ⟨i, hi⟩ := List.mem_iff_getElem?.mp hy
  have hl : i < ws.length := by rw [C.len]; exact (List.getElem?_eq_some_iff.mp hi).1
  obtain ⟨c', u, a1, _, a3⟩ := C.has i _ _ hi (List.getElem?_eq_getElem hl)
  rw [e] at a1
  cases a1
  exact ⟨u, a3⟩
/-- the context of the lambda's body, at its entry -/
def lcx (m : Md) (N : List Str) (q : Str) (scope : Scope) (cl : List (Str × Addr)) (f c' : Addr) (A : Around) (outer : List Env) (s : Shared) (H : Hp) (E : XK) : Cx where
  prog := m.P
  w := m.w
  K := m.K
  mg := m.mg
  base := m.base
  A := A.deeper (PySem.W.envX q scope s.heap.objs.size f (.ref c') cl)
  N := N
  s_0 := s
  H_0 := H
  env := PySem.W.envX q scope s.heap.objs.size f (.ref c') cl
  outer := outer
  stack := PySem.W.envX q scope s.heap.objs.size f (.ref c') cl :: outer
  ex := []
  calm := true
  fn := fun _ => false
  pn := []
  xe := fun e s' => wpAny (model m.P m.w) (A.deeper (PySem.W.envX q scope s.heap.objs.size f (.ref c') cl)) (leaving (PySem.W.envX q scope s.heap.objs.size f (.ref c') cl) e) (fun _ s'' => L2.CX m.P m.w outer H s E e s'') (fun e' s'' => L2.CX m.P m.w outer H s E e' s'') s'
section
variable {m : Md} {N ps : List Str} {q : Str} {L : LW} {cells : List (Str × Addr)} {f c' : Addr} {A : Around} {outer : List Env} {s : Shared} {H : Hp} {E : XK} {ws : List V}
theorem inv_startL {h₁ : Heap} {tk : Nat} {binds : List (Str × Value)} (S : LwS N ps L.scope) (hd : A.handled = none) (e0 : Env0 m.P m.w m.K m.mg m.base A outer s H) (C : CelT cells N ws H)
    (hns : h₁.Ns s.heap.objs.size fun y => binds.reverse.lookup y) (kp : ∀ b o, s.heap.get? b = some o → h₁.get? b = some o) :
    Inv (lcx m N q L.scope (cloFrom cells L.scope.names []) f c' A outer s (unC (csOf cells N) H) E) [] (ws.map some) (unC (csOf cells N) H) { s with heap := h₁, toks := tk } := by
  have e1 := env0_un C.all e0
  have hfree : ∀ y ∈ L.scope.names, y.2 = .free → ∃ c, cells.lookup y.1 = some c := fun y hy e => by
    obtain ⟨i, hi⟩ := List.mem_iff_getElem?.mp (S.free y hy e)
    have hl : i < ws.length := by rw [C.len]; exact (List.getElem?_eq_some_iff.mp hi).1
    obtain ⟨c, u, a1, _⟩ := C.has i _ _ hi (List.getElem?_eq_getElem hl)
    exact ⟨c, a1⟩
  have cm : ∀ {y c}, (cloFrom cells L.scope.names []).lookup y = some c → cells.lookup y = some c := fun {y c} e => NdefX.clo_cm hfree e
  have cn : ∀ {y c}, (cloFrom cells L.scope.names []).lookup y = some c → y ∈ N := fun {y c} e => by
    rcases cloFrom_mem (PySem.mem_of_lookup e) with hm | ⟨h1, _⟩
    · cases hm
    · exact S.free _ h1 rfl
  have noA : ∀ b : Addr, b ∉ (lcx m N q L.scope (cloFrom cells L.scope.names []) f c' A outer s (unC (csOf cells N) H) E).ex := fun b z => absurd (show b ∈ ([] : List Addr) from z) (by simp)
  refine ⟨⟨e1.mod, S.kind, rfl, rfl, Nat.le_refl _, fun x y c a b => C.inj x y c (cm a) (cm b), fun y hy => ?_, fun y c z _ => ?_, fun _ => hd, Around.frames_deeper e1.frames, .inr ⟨rfl, rfl⟩, fun b z => absurd z (noA b), e1.bs, e1.bsz, fun b _ _ => noA b,
      fun b z => absurd z (noA b), e1.funs, e1.frf⟩,
    rfl, e1.bare, Un.kept kp, ⟨_, hns, fun i y v a1 a2 a3 => ?_⟩, fun y c e => ?_, e1.hok.fresh (Nat.le_refl _), fun y c e => unC_in (mem_cells (cn e) (cm e)), fun q hq => absurd (show q ∈ ([] : List (Addr × Obj)) ++ [] from hq) (by simp), e1.hok.kept kp, ?_⟩
  · have hy : L.scope.names.lookup y = some .cell ∨ L.scope.names.lookup y = some .free := hy
    rcases hy with hy | hy
    · exact absurd rfl (S.nocell _ (PySem.mem_of_lookup hy))
    · exact mem_lookup (cloFrom_has (cells := cells) (acc := []) (PySem.mem_of_lookup hy))
  · have z : false = true := z
    cases z
  · have a3 : Vis L.scope y := a3
    have a1 : N[i]? = some y := a1
    rcases a3 with k | k | k
    · exact absurd k (S.noloc y (List.mem_of_getElem? a1))
    · exact absurd rfl (S.nocell _ (PySem.mem_of_lookup k))
    · have ev : ws[i]? = some v := by
        rw [List.getElem?_map] at a2
        cases e : ws[i]? with
        | none => rw [e] at a2; cases a2
        | some a => rw [e] at a2; cases a2; rfl
      obtain ⟨c, u, b1, b2, b3⟩ := C.has i y v a1 ev
      obtain ⟨z, _, _⟩ := e0.hok c _ b3
      refine ⟨u, b2, .inr ⟨.inr k, c, NdefX.clo_has hfree (PySem.mem_of_lookup k) b1, ?_⟩⟩
      exact Heap.IsCell.keeps (show s.heap.IsCell c (some u) from z) kp
  · obtain ⟨u, _, z⟩ := cell_at C.all e0.hok (mem_cells (cn e) (cm e))
    exact ⟨some u, z.keeps kp⟩
  · show (ws.map some).length = N.length
    rw [List.length_map]
    exact C.len
/-- THE CALL of such a lambda -/
theorem run_lam {d : Option V} {Q : VK} {k : Nat} (S : LwS N ps L.scope) (hb : BindL L d ps) (hr : Room (k + 1) A) (e0 : Env0 m.P m.w m.K m.mg m.base A outer s H) (hl : LamAt H q cells L d f) (C : CelT cells N ws H)
    (body : ∀ c', Room k (lcx m N q L.scope (cloFrom cells L.scope.names []) f c' A outer s (unC (csOf cells N) H) (fun cls d H' => (∀ c ∈ csOf cells N, H' c = none) → E cls d (reC (csOf cells N) H H'))).A →
      RE (lcx m N q L.scope (cloFrom cells L.scope.names []) f c' A outer s (unC (csOf cells N) H) (fun cls d H' => (∀ c ∈ csOf cells N, H' c = none) → E cls d (reC (csOf cells N) H H'))) L.body (ws.map some) (unC (csOf cells N) H)
        (fun v H' => (∀ c ∈ csOf cells N, H' c = none) → Q v (reC (csOf cells N) H H'))) :
    codeAny (model m.P m.w) A (.call (.ref f) ⟨[], []⟩) (CR (L2.CX m.P m.w) outer m.P m.w H s Q E) s := by
  obtain ⟨dV, c', h1, h2, h3⟩ := hl
  obtain ⟨⟨od, sl, doc, pm, ctv, ho⟩, _, _⟩ := e0.hok f _ h1
  obtain ⟨⟨oc, vs, t, hoc, hdc, hvc⟩, _, _⟩ := e0.hok c' _ h2
  have lim : s.heap.NoLimit := e0.mod.nolimit.keeps fun b o e => (e0.bs b o e).1
  refine codeAny_mono (R := CR (L2.CX m.P m.w) outer m.P m.w (unC (csOf cells N) H) s (fun v H' => (∀ c ∈ csOf cells N, H' c = none) → Q v (reC (csOf cells N) H H')) (fun cls d H' => (∀ c ∈ csOf cells N, H' c = none) → E cls d (reC (csOf cells N) H H'))) ?_ fun r s' hq => ?_
  · have bt : ∃ binds : List (Str × Value), BindsTo s (PySem.W.kdv_fn "<lambda>" q L.params (.expr L.body) L.scope (cloFrom cells L.scope.names []) dV doc pm (.ref c') ctv) ⟨[], []⟩ binds ∧ ∀ y ∈ binds, L.scope.names.lookup y.1 = some .local := by
      cases d with
      | none =>
        obtain ⟨_, b2⟩ := hb
        rw [show dV = .none from h3]
        exact ⟨[], b2 _ _ _ _ _ _ _, fun y hy => absurd hy (by simp)⟩
      | some v =>
        obtain ⟨x, rfl, b2⟩ := hb
        obtain ⟨T, rfl, e2⟩ := h3
        obtain ⟨_, its, rv, o, hT, _, n, hd⟩ := e0.hok T _ e2
        cases rv with
        | cons r1 rs =>
          cases rs
          refine ⟨[(x, _)], b2 s q _ doc pm _ ctv T o _ n hT hd, fun y hy => ?_⟩
          rw [List.mem_singleton] at hy
          rw [hy]
          exact S.par x (by simp)
    obtain ⟨binds, b1, b2⟩ := bt
    refine PySem.W.kla_callFunE hr.depth ho rfl S.co S.gen rfl ⟨c', oc, vs, t, rfl, hoc, hdc, hvc⟩ (b1 _ _ _ _ ?_)
    refine wpAny_newFunctionEnv S.nocell b2 (fun h₁ hns hsb => ⟨lim.fresh _ hsb, ?_⟩) S.kind
    show codeAny _ _ (.expr L.body (PySem.W.envX q L.scope s.heap.objs.size f (.ref c') (cloFrom cells L.scope.names []))) _ _
    have kp : ∀ b o, s.heap.get? b = some o → h₁.get? b = some o := fun b o e => hsb.extBut b o (Nat.ne_of_lt (Heap.lt_size e)) (Heap.get?_push_of_some _ e)
    refine PySem.W.kla_codeExpr (wpAny_mono (body c' (hr.deeper _) [] _ (inv_startL S hr.hd e0 C hns kp)) (fun v s' hq => ?_) fun e s' hq => hq)
    obtain ⟨w', H', J', rv, q'⟩ := hq
    exact ⟨w', H', J'.os, J'.bare, J'.base, J'.hok, rv, q'⟩
  · have t := C.all
    have nf : ∀ c ∈ csOf cells N, c ∉ frs outer := fun c hc hf => by
      obtain ⟨u, q⟩ := t c hc
      rw [e0.frf c hf] at q
      cases q
    refine cr_re (K := m.K) (mg := m.mg) (base := m.base) (A := A) t e0 ?_
    cases r with
    | error e =>
      obtain ⟨a, B, H', cls, d, e1, fl, hok, ub, na, os, ag, hE⟩ := hq
      refine ⟨a, B, H', cls, d, e1, fl, hok, ub, na, os, ag, hE fun c hc => ?_⟩
      obtain ⟨u, _, o, ho, _⟩ := cell_at t e0.hok hc
      exact ub.free c o ho (unC_in hc)
    | ok fl =>
      cases fl with
      | ret u =>
        obtain ⟨v, H', os, ag, un, hok, rv, q⟩ := hq
        refine ⟨v, H', os, ag, un, hok, rv, q fun c hc => ?_⟩
        obtain ⟨u, _, o, ho, _⟩ := cell_at t e0.hok hc
        exact un.free c o ho (unC_in hc) (by simp)
      | next => exact hq.elim
      | brk => exact hq.elim
      | cont => exact hq.elim
end
end Dw
/-! Dw: a def whose cells outlive it -/
namespace Dw
open PySem PySem.Spec PyProof.Rows L2 LamX
/-- a body that ends with return: the slots are told too -/
def RSc (X : Cx) (sts : List Stmt) (D : V → L2.St → Hp → Prop) (σ : L2.St) (H : Hp) : Prop := ∀ pins s, Inv X pins σ H s → wpAny (model X.prog X.w) X.A (execs sts X.env) (fun fl s' => match fl with
  | .ret u => ∃ v σ' H', Inv X pins σ' H' s' ∧ RelV v u ∧ D v σ' H'
  | _ => False) X.xe s
section
variable {X : Cx} {σ : L2.St} {H : Hp} {D : V → L2.St → Hp → Prop} {st : Stmt} {sts : List Stmt} {e : Expr} {pos : Pos}
theorem rsc_cons (h : RS X st { nx := fun σ H => RSc X sts D σ H, rt := fun _ _ => False, bk := fun _ _ => False, ct := fun _ _ => False } σ H) : RSc X (st :: sts) D σ H := fun pins s I => by
  refine wpAny_execs_cons (thn (h pins s I) fun f s1 q => ?_)
  cases f with
  | next =>
    obtain ⟨σ', H', I', q⟩ := q
    exact q pins s1 I'
  | ret v =>
    obtain ⟨_, _, _, _, _, z⟩ := q
    exact z.elim
  | brk =>
    obtain ⟨_, _, _, z⟩ := q
    exact z.elim
  | cont =>
    obtain ⟨_, _, _, z⟩ := q
    exact z.elim
theorem rsc_ret (h : RE X e σ H fun v H' => D v σ H') : RSc X [.Return (some e) pos] D σ H := fun pins s I => by
  refine wpAny_execs_cons (wpAny_Return_some (thn (h pins s I) fun v s1 ⟨x, H1, I1, r1, q1⟩ => ?_))
  exact ⟨x, σ, H1, I1, r1, q1⟩
/-- an assignment whose value is told by a reading -/
theorem rsc_set {x : Str} {tpos : Pos} (n : Nat) (h : RE X e σ H fun v H' => RSc X sts D (σ.set n (some v)) H') (nd : X.N.Nodup := by assumption) (hi : X.N[n]? = some x := by rfl) (hx : Loc X.env.scope x := by first | exact Or.inl rfl | exact Or.inr rfl)
    (hsw : swapsWith e (some (.Name x tpos)) pos.line X.env = pure false := by rfl) (hf : X.fn x = true ∨ X.env.scope.names.lookup x = some .local := by first | exact .inl rfl | exact .inr rfl) :
    RSc X (.Assign [.Name x tpos] e pos :: sts) D σ H := rsc_cons (RS.of (ps_set nd hi hx re_pe hsw hf) h)
end
open Classical in
/-- the cells are told -/
noncomputable def exC (cs : List Addr) (g : Addr → Value) (H : Hp) : Hp := fun b => if b ∈ cs then some (CellX b (g b)) else H b
theorem fn_cells {P : Program} {w : World} {K : PySem.W.Frag} {mg : Str → Option Value} {base : Heap} {k : Nat} {f : Addr} {name qual : Str} {params : Arguments} {body : List Stmt} {scope : Scope} {dV kV doc pm cdv ct oc : Value} {an od : Option Addr}
    {osl : Array (Option Value)} {N ps Nc : List Str} {sp : Sp} (lk : K.lookup f = some ⟨oc, od, .func (PySem.W.fnOf name qual params body scope dV kV doc pm an cdv ct), osl⟩) (hcd : PySem.W.codeIn K cdv qual = true) (S : FnScope N ps scope)
    (len : ∀ vs H Q E, sp vs H Q E → vs.length = ps.length) (hNc : ∀ (i : Nat) (y : Str), Nc[i]? = some y → N[i]? = some y ∧ scope.names.lookup y = some .cell)
    (hbody : ∀ (A : Around) (outer : List Env) (s : Shared) (H : Hp) (vs : List V) (Q : VK) (E : XK), Room k (A.deeper (envOfC qual scope s.heap.objs.size f cdv)) → sp vs H Q E →
      RSc (cxOf CX0 P w K mg base N qual scope f cdv A outer s H E).nox body (fun v σ' H' => ∃ ws : List V, ws.length = Nc.length ∧ (∀ (i : Nat) (u : V), ws[i]? = some u → σ'[i]? = some (some u)) ∧
        ∀ H'', Same H' H'' → CelT (cellsFrom (s.heap.objs.size + 1) scope.names []) Nc ws H'' → Q v H'') (start N vs) H) :
    FnOk P w K mg base CX0 (k + 1) f (PySem.W.fnOf name qual params body scope dV kV doc pm an cdv ct) ps sp := by
  refine ⟨len, fun A outer s H args us vs Q E hr e0 hb r hsp => ?_⟩
  have hl := len _ _ _ _ hsp
  have KX : K.In s.heap := e0.mod.kin.keeps fun b o e => (e0.bs b o e).1
  have lim : s.heap.NoLimit := e0.mod.nolimit.keeps fun b o e => (e0.bs b o e).1
  have hkind : ∀ y ∈ ps.zip us, scope.names.lookup y.1 = some .local ∨ (scope.names.lookup y.1 = some .cell ∧ ((cellsFrom (s.heap.objs.size + 1) scope.names []).lookup y.1).isSome = true) := fun ⟨n, v⟩ hy => by
    rcases S.par n (List.of_mem_zip hy).1 with q | q
    · exact .inl q
    · exact .inr ⟨q, PySem.W.cellsFrom_some _ _ _ (.inl q)⟩
  refine codeAny_call_function hr.depth (KX _ _ lk) rfl S.co S.gen rfl (PySem.W.codeRec_of KX hcd) (hb _ _ _ _ ?_)
  refine wpAny_newFunctionEnv_cells S.kind hkind fun env he s1 x => ?_
  subst he
  refine ⟨lim.keeps x.toInCall.keep, codeAny_func ?_⟩
  have I : Inv (cxOf CX0 P w K mg base N qual scope f cdv A outer s H E) [] (start N vs) H s1 := inv_start S hr.hd e0 hl r x
  refine wpAny_mono (hbody A outer s H vs Q E (hr.deeper _) hsp [] s1 (I.wish _)) (fun fl s' hs => ?_) fun e s' hs => False.elim hs
  cases fl with
  | next => exact hs.elim
  | brk => exact hs.elim
  | cont => exact hs.elim
  | ret u =>
    obtain ⟨v, σ', H', J, rv, ws, wl, wat, q⟩ := hs
    have J : Inv (cxOf CX0 P w K mg base N qual scope f cdv A outer s H E) [] σ' H' s' := J.unwish
    obtain ⟨cells, hce⟩ : ∃ cells, cells = cellsFrom (s.heap.objs.size + 1) scope.names [] := ⟨_, rfl⟩
    rw [← hce] at q
    have cellsE : (cxOf CX0 P w K mg base N qual scope f cdv A outer s H E).env.cells = cells := hce.symm
    have inC : ∀ c ∈ csOf cells Nc, ∃ (i : Nat) (y : Str) (u : Value) (a : V), Nc[i]? = some y ∧ cells.lookup y = some c ∧ ws[i]? = some a ∧ RelV a u ∧ s'.heap.IsCell c (some u) ∧ H' c = none := fun c hc => by
      obtain ⟨y, hy, ec⟩ := List.mem_filterMap.mp hc
      obtain ⟨i, hi⟩ := List.mem_iff_getElem?.mp hy
      have hw : i < ws.length := by rw [wl]; exact (List.getElem?_eq_some_iff.mp hi).1
      have hws := List.getElem?_eq_getElem hw
      obtain ⟨hN, hk⟩ := hNc i y hi
      obtain ⟨m, hn, hlo⟩ := J.loc
      obtain ⟨u, r1, l⟩ := hlo i y _ hN (wat i _ hws) (.inr (.inl hk))
      rcases l with ⟨z, _⟩ | ⟨_, c2, e2, z⟩
      · have z : scope.names.lookup y = some .local := z
        rw [hk] at z
        cases z
      · rw [cellsE, ec] at e2
        cases e2
        exact ⟨i, y, u, _, hi, ec, hws, r1, z, J.freeC y c (by rw [cellsE]; exact ec)⟩
    have pick : ∃ g : Addr → Value, ∀ c ∈ csOf cells Nc, s'.heap.IsCell c (some (g c)) := by
      classical
      refine ⟨fun c => if h : ∃ u, s'.heap.IsCell c (some u) then h.choose else .none, fun c hc => ?_⟩
      obtain ⟨_, _, u, _, _, _, _, _, z, _⟩ := inC c hc
      have hex : ∃ u, s'.heap.IsCell c (some u) := ⟨u, z⟩
      simp only [hex, dif_pos]
      exact hex.choose_spec
    obtain ⟨g, hg⟩ := pick
    have one : ∀ {c : Addr} {u1 u2 : Value}, s'.heap.IsCell c (some u1) → s'.heap.IsCell c (some u2) → u1 = u2 := fun {c u1 u2} ⟨o1, a1, b1⟩ ⟨o2, a2, b2⟩ => by
      rw [a1] at a2
      cases a2
      rw [b1] at b2
      cases b2
      rfl
    have out : ∀ b o, H' b = some o → b ∉ csOf cells Nc := fun b o e z => by
      obtain ⟨_, _, _, _, _, _, _, _, _, n⟩ := inC b z
      rw [n] at e
      cases e
    have eo : ∀ b, b ∉ csOf cells Nc → exC (csOf cells Nc) g H' b = H' b := fun b z => by unfold exC; rw [if_neg z]
    have ei : ∀ b, b ∈ csOf cells Nc → exC (csOf cells Nc) g H' b = some (CellX b (g b)) := fun b z => by unfold exC; rw [if_pos z]
    have sm : Same H' (exC (csOf cells Nc) g H') := fun b o e => by rw [eo b (out b o e)]; exact e
    have new : ∀ b o, s.heap.get? b = some o → b ∉ csOf cells Nc := fun b o e z => by
      obtain ⟨i, y, _, _, _, ec, _⟩ := inC b z
      have h1 := J.ok.cab y b rfl (by rw [cellsE]; exact ec)
      exact absurd (Nat.lt_of_lt_of_le (Heap.lt_size e) h1) (Nat.lt_irrefl _)
    refine ⟨v, exC (csOf cells Nc) g H', J.os, J.bare, ?_, fun b u e => ?_, rv, q _ sm ⟨wl, fun x y c a b => J.ok.inj x y c (by rw [cellsE]; exact a) (by rw [cellsE]; exact b), fun i y a e1 e2 => ?_⟩⟩
    · have U := J.base
      exact ⟨U.keep, U.slot, fun b o e n hx => by rw [eo b (new b o e)]; exact U.free b o e n hx, U.there, fun b xs e => sm _ _ (U.tups b xs e), fun b o xs e => sm _ _ (U.frzs b o xs e), fun b ps e => let ⟨more, z⟩ := U.tbls b ps e; ⟨more, sm _ _ z⟩⟩
    · by_cases hb : b ∈ csOf cells Nc
      · rw [ei b hb] at e
        cases e
        obtain ⟨o, ho, hd⟩ := hg b hb
        exact ⟨⟨o, ho, hd⟩, ⟨o, ho⟩, fun h1 h2 ⟨o', ho', hd'⟩ st => ⟨o', st _ ho', hd'⟩⟩
      · rw [eo b hb] at e
        exact (J.hok b u e).stay (fun _ _ _ q => q) (fun c q => sm _ _ q) fun c xs q => sm _ _ q
    · have hc : ∃ c, cells.lookup y = some c := by
        have := cell_has (n := s.heap.objs.size + 1) (hNc i y e1).2
        rw [← hce] at this
        exact this
      obtain ⟨c, hc⟩ := hc
      have hm := mem_cells (List.mem_of_getElem? e1) hc
      obtain ⟨i2, y2, u, a2, f1, f2, f3, f4, f5, f6⟩ := inC c hm
      have ey : y = y2 := J.ok.inj y y2 c (by rw [cellsE]; exact hc) (by rw [cellsE]; exact f2)
      subst ey
      have hi2 : i2 = i := by
        have n1 := (hNc i y e1).1
        have n2 := (hNc i2 y f1).1
        have l1 := (List.getElem?_eq_some_iff.mp n1).1
        exact (List.getElem?_inj (i := i2) (j := i) (List.getElem?_eq_some_iff.mp n2).1 S.nd).mp (by rw [n1, n2])
      subst hi2
      rw [e2] at f3
      cases f3
      refine ⟨c, u, hc, f4, ?_⟩
      rw [ei c hm, one f5 (hg c hm)]
end Dw
/-! Dw: lists of lambdas; _law_calls -/
namespace Dw
open PySem PySem.Spec PyProof.Rows L2 LamX
def lamOf : Expr → LW
  | .Lambda a b s _ => ⟨a, b, s⟩
  | e => ⟨{ posonlyargs := [], args := [], vararg := none, kwonlyargs := [], kw_defaults := [], kwarg := none, defaults := [] }, e, { kind := .function, names := [], isGenerator := false, isCoroutine := false }⟩
def dflt : List Expr → Option V
  | [.Constant (.int i) _ _] => some (.int i)
  | _ => none
def dfOf (e : Expr) : Option V := dflt (lamOf e).params.defaults
def freeB (sc s : Scope) : Bool := s.names.all fun y => !decide (y.2 = .free) || decide (sc.names.lookup y.1 = some .cell) || decide (sc.names.lookup y.1 = some .free)
def dflB : List Expr → Bool
  | [] => true
  | [.Constant (.int _) _ _] => true
  | _ => false
def isLamB (sc : Scope) : Expr → Bool
  | .Lambda a _ s _ => freeB sc s && a.kw_defaults.isEmpty && dflB a.defaults
  | _ => false
theorem free_by {sc s : Scope} (h : freeB sc s = true) : ∀ y ∈ s.names, y.2 = .free → sc.names.lookup y.1 = some .cell ∨ sc.names.lookup y.1 = some .free := by
  unfold freeB at h
  simp only [Bool.and_eq_true, Bool.or_eq_true, Bool.not_eq_true', decide_eq_true_eq, decide_eq_false_iff_not, List.all_eq_true] at h
  intro y hy e
  rcases h y hy with (z | z) | z
  · exact absurd e z
  · exact .inl z
  · exact .inr z
/-- what stands for the lambda e -/
def LamV (H : Hp) (q : Str) (cells : List (Str × Addr)) (e : Expr) (v : V) : Prop := ∃ f, v = .ref f ∧ LamAt H q cells (lamOf e) (dfOf e) f
theorem LamV.ext {H H' : Hp} {q : Str} {cells : List (Str × Addr)} {e : Expr} {v : V} (h : LamV H q cells e v) (x : ExtN H H') : LamV H' q cells e v := let ⟨f, e1, e2⟩ := h; ⟨f, e1, e2.ext x⟩
theorem lamVs_ext {H H' : Hp} {q : Str} {cells : List (Str × Addr)} {es : List Expr} {vs : List V} (h : Paired (LamV H q cells) es vs) (x : ExtN H H') : Paired (LamV H' q cells) es vs := Paired.mapI h fun _ _ _ z => z.ext x
section
variable {X : Cx} {σ : L2.St} {H : Hp} {c P : Addr}
theorem re_lam {e : Expr} {Q : VK} (TB : TabB X.base X.mg c P) (hcode : X.env.code = .ref c) (he : isLamB X.env.scope e = true) (hT : TabS H P (X.env.qual ++ "<lambda>"))
    (q : ∀ v H1, ExtN H H1 → TabS H1 P (X.env.qual ++ "<lambda>") → LamV H1 (X.env.qual ++ "<lambda>") X.env.cells e v → Q v H1) : RE X e σ H Q := by
  cases e with
  | Lambda a b s p =>
    have he : (freeB X.env.scope s && a.kw_defaults.isEmpty && dflB a.defaults) = true := he
    simp only [Bool.and_eq_true, List.isEmpty_iff] at he
    obtain ⟨⟨h1, h2⟩, h3⟩ := he
    have hf := free_by h1
    unfold LamV dfOf lamOf at q
    generalize hd : a.defaults = ds at h3
    match ds, h3, hd with
    | [], _, hd =>
      refine RE.of (pe_lam0 TB hcode hf (by rw [defaultsOf_eq, hd, h2]; rfl)) ⟨hT, fun f H1 eN T1 _ hl => q _ H1 eN T1 ⟨f, rfl, ?_⟩⟩
      rw [hd]
      exact hl
    | [.Constant (.int i) kk p0], _, hd =>
      refine RE.of (pe_lam1 TB hcode hf hd h2) ⟨hT, fun f H1 eN T1 _ hl => q _ H1 eN T1 ⟨f, rfl, ?_⟩⟩
      rw [hd]
      exact hl
  | _ => exact absurd he (by simp [isLamB])
theorem star_lam {e : Expr} {es : List Expr} {sc : Scope} (he : isLamB sc e = true) : starEach (e :: es) X.env = (false, eval e X.env) :: starEach es X.env := by
  cases e with
  | Lambda a b s p => rfl
  | _ => exact absurd he (by simp [isLamB])
theorem ra_lams (TB : TabB X.base X.mg c P) (hcode : X.env.code = .ref c) : ∀ (es : List Expr) (H : Hp) (Q : List V → Hp → Prop), (∀ e ∈ es, isLamB X.env.scope e = true) → TabS H P (X.env.qual ++ "<lambda>") →
    (∀ vs H1, ExtN H H1 → TabS H1 P (X.env.qual ++ "<lambda>") → Paired (LamV H1 (X.env.qual ++ "<lambda>") X.env.cells) es vs → Q vs H1) → RA X es σ H Q
  | [], H, Q, _, T, q => RA.of pa_nil (q [] H (ExtN.refl H) T .nil)
  | e :: es, H, Q, he, T, q => RA.of (pa_cons re_pe ra_pa (star_lam (he e List.mem_cons_self))) (re_lam TB hcode (he e List.mem_cons_self) T fun v H1 e1 T1 hv =>
      ra_lams TB hcode es H1 _ (fun x hx => he x (List.mem_cons_of_mem _ hx)) T1 fun vs H2 e2 T2 hvs => q _ _ (e1.trans e2) T2 (.cons (hv.ext e2) hvs))
/-- [lambda ..: .., ..] -/
theorem re_lams {es : List Expr} {pos : Pos} {Q : VK} (TB : TabB X.base X.mg c P) (hcode : X.env.code = .ref c) (hT : TabS H P (X.env.qual ++ "<lambda>")) (he : ∀ e ∈ es, isLamB X.env.scope e = true) (hl : es.length ≤ sizeLine)
    (q : ∀ p vs H1, ExtN H H1 → TabS H1 P (X.env.qual ++ "<lambda>") → H1 p = some (.lst vs) → Paired (LamV H1 (X.env.qual ++ "<lambda>") X.env.cells) es vs → Q (.ref p) H1) : RE X (.List es pos) σ H Q := by
  refine RE.of (pe_lst ra_pa) (ra_lams TB hcode es H _ he hT fun vs H1 e1 T1 hvs => ⟨by rw [← Paired.length hvs]; exact hl, fun p hp => ?_⟩)
  have s := Same.new (o := .lst vs) hp
  exact q p vs _ (e1.trans (ExtN.same s)) (T1.ext s) upd_same (lamVs_ext hvs (ExtN.same s))
theorem lams_app {q : Str} {cells : List (Str × Addr)} : ∀ {es fs : List Expr} {vs us : List V}, Paired (LamV H q cells) es vs → Paired (LamV H q cells) fs us → Paired (LamV H q cells) (es ++ fs) (vs ++ us)
  | [], _, _, _, h, g => by cases h; exact g
  | e :: es, _, _, _, h, g => by
    cases h with
    | cons h t => exact .cons h (lams_app t g)
/-- name + [lambda ..: .., ..] -/
theorem re_more {es fs : List Expr} {pos p1 p2 : Pos} {x : Str} {Q : VK} {l : Addr} {vs : List V} (n : Nat) (TB : TabB X.base X.mg c P) (hcode : X.env.code = .ref c) (hT : TabS H P (X.env.qual ++ "<lambda>")) (hs : σ[n]? = some (some (.ref l))) (hv : H l = some (.lst vs)) (hvs : Paired (LamV H (X.env.qual ++ "<lambda>") X.env.cells) es vs)
    (he : ∀ e ∈ fs, isLamB X.env.scope e = true) (hl : es.length + fs.length ≤ sizeLine)
    (q : ∀ p us H1, ExtN H H1 → TabS H1 P (X.env.qual ++ "<lambda>") → H1 p = some (.lst us) → Paired (LamV H1 (X.env.qual ++ "<lambda>") X.env.cells) (es ++ fs) us → Q (.ref p) H1)
    (hN : X.N[n]? = some x := by rfl) (hx : Vis X.env.scope x := by first | exact Or.inl rfl | exact Or.inr (Or.inl rfl) | exact Or.inr (Or.inr rfl)) (hd : (x == ("__debug__" : Str)) = false := by decide) (hcd : (x == ("__classdict__" : Str)) = false := by decide) :
    RE X (.BinOp (.Name x p1) .Add (.List fs p2) pos) σ H Q := by
  refine RE.of (pe_op op_cat (pe_var hN hx hd hcd) re_pe) ⟨_, hs, re_lams TB hcode hT he (by omega) fun p us H1 e1 T1 h1 h2 => ⟨l, p, vs, us, rfl, rfl, e1 _ _ hv (fun ps z => by cases z), h1, by rw [← Paired.length hvs, ← Paired.length h2]; exact hl, fun r hr => ?_⟩⟩
  have s := Same.new (o := .lst (vs ++ us)) hr
  exact q r (vs ++ us) _ (e1.trans (ExtN.same s)) (T1.ext s) upd_same (lamVs_ext (lams_app (lamVs_ext hvs e1) h2) (ExtN.same s))
end
abbrev sCalls : Stmt := topS 69
def listEs : Expr → List Expr
  | .List es _ => es
  | .BinOp _ _ b _ => listEs b
  | _ => []
def stEs : Stmt → List Expr
  | .Assign _ e _ => listEs e
  | .Return (some e) _ => listEs e
  | _ => []
/-- the fifteen -/
def lamEs : List Expr := (defBody sCalls).flatMap stEs
abbrev nCells : List Str := ["_law_halls", "_law_work", "_law_crowd_here", "_law_one"]
abbrev nCalls : List Str := ["_law_halls", "_law_work", "_law_crowd_here", "_law_one", "_law_calls_here"]
theorem scCalls : FnScope nCalls ["_law_halls", "_law_work", "_law_crowd_here"] (defScope sCalls) := ⟨rfl, rfl, rfl, by decide +kernel, rfl, by decide +kernel, by decide +kernel⟩
/-- a def that makes lambdas: its code object at c, the table at P -/
structure DfC (m : Md) (x : Str) (st : Stmt) (ps : List Str) (P : Addr) : Prop where
  ex : ∃ (f c : Addr) (oc : Value) (od : Option Addr) (kV doc pm : Value) (an : Option Addr) (ct : Value) (osl : Array (Option Value)),
    m.K.lookup f = some ⟨oc, od, .func (PySem.W.fnOf x x (defArgs st) (defBody st) (defScope st) .none kV doc pm an (.ref c) ct), osl⟩ ∧ PySem.W.codeIn m.K (.ref c) x = true ∧ PySem.W.keepIn m.K (.ref f) = true ∧ m.mg x = some (.ref f) ∧
    Binds m.K (PySem.W.fnOf x x (defArgs st) (defBody st) (defScope st) .none kV doc pm an (.ref c) ct) ps [] ∧ TabB m.base m.mg c P
abbrev qLam : Str := "_law_calls.<locals>.<lambda>"
def spCalls (P : Addr) : Sp := fun vs H Q _ => ∃ (h : Nat) (w : List Nat) (cr : List Int) (u : V), vs = [.int (h : Nat), .str (txt w), u] ∧ 1 ≤ h ∧ h ≤ 6 ∧ Word h w ∧ w.length ≤ 6 ∧ Im H (rowD cr) u ∧ TabS H P qLam ∧
  ∀ (p : Addr) (fs : List V) (cells : List (Str × Addr)) (one : V) (H' : Hp), ExtN H H' → H' p = some (.lst fs) → Paired (LamV H' qLam cells) lamEs fs → CelT cells nCells [.int (h : Nat), .str (txt w), u, one] H' → Im H' (cardD (lawCard h w)) one → Q (.ref p) H'
abbrev KCalls (m : Md) (P : Addr) := KnG m "_law_calls" ["_law_halls", "_law_work", "_law_crowd_here"] 3 (spCalls P)
theorem Tk.extN {H H' : Hp} (e : ExtN H H') : Tk H H' := fun a xs h => e _ _ h fun ps z => by cases z
end Dw
/-! Dw: _law_calls -/
namespace Dw
open PySem PySem.Spec PyProof.Rows L2 LamX
theorem qual_eq {m : Md} {f c : Addr} {rt : Rt} : (cxD m nCalls "_law_calls" sCalls f rt).env.qual ++ "<lambda>" = qLam := by rfl
theorem lamB_all : ∀ e ∈ lamEs, isLamB (defScope sCalls) e = true := by decide +kernel
theorem kn_calls {m : Md} {P : Addr} (T : Tx m) (K1 : KLCard m) (F : DfC m "_law_calls" sCalls ["_law_halls", "_law_work", "_law_crowd_here"] P) : KCalls m P := by
  obtain ⟨f, c, oc, od, kV, doc, pm, an, ct, osl, lk, hcd, hkp, hmg, hb, TB⟩ := F.ex
  refine ⟨f, _, fn_cells (Nc := nCells) lk hcd scCalls (fun vs H Q E ⟨_, _, _, _, e, _⟩ => by rw [e]; rfl) (fun i y e => ?_) (fun A outer s H vs Q E hr hsp => ?_), hmg, hkp, hb⟩
  · match i, e with
    | 0, e => cases e; exact ⟨rfl, by rfl⟩
    | 1, e => cases e; exact ⟨rfl, by rfl⟩
    | 2, e => cases e; exact ⟨rfl, by rfl⟩
    | 3, e => cases e; exact ⟨rfl, by rfl⟩
  obtain ⟨h, w, cr, u, rfl, h1, h6, W, hw, hcr, hT, q⟩ := hsp
  show RSc (cxD m nCalls "_law_calls" sCalls f ⟨.ref c, A, outer, s, H, E⟩) (defBody sCalls) _ _ _
  have hr : Room 2 (cxD m nCalls "_law_calls" sCalls f ⟨.ref c, A, outer, s, H, E⟩).A := hr
  have nd : (cxD m nCalls "_law_calls" sCalls f ⟨.ref c, A, outer, s, H, E⟩).N.Nodup := scCalls.nd
  have hc : (cxD m nCalls "_law_calls" sCalls f ⟨.ref c, A, outer, s, H, E⟩).env.code = .ref c := rfl
  have TB : TabB (cxD m nCalls "_law_calls" sCalls f ⟨.ref c, A, outer, s, H, E⟩).base (cxD m nCalls "_law_calls" sCalls f ⟨.ref c, A, outer, s, H, E⟩).mg c P := TB
  have G : Good H H (L2.start nCalls [V.int (h : Nat), .str (txt w), u]) [.dat (.int (h : Nat)), .dat (.str (txt w)), .dat (rowD cr), .un, .un] :=
    (start_good (N := nCalls) (ss := [.dat (.int (h : Nat)), .dat (.str (txt w)), .dat (rowD cr)]) (by show 3 ≤ 5; decide) (.cons ⟨rfl, _, rfl, im_int _⟩ (.cons ⟨rfl, _, rfl, im_str _⟩ (.cons ⟨rfl, _, rfl, hcr⟩ .nil))))
  refine rsc_set 3 ((ed_call (X := cxD m nCalls "_law_calls" sCalls f ⟨.ref c, A, outer, s, H, E⟩) K1 (as_d (vd 0) (as_d (vd 1) as_0)) ⟨h, w, rfl, h1, h6, W, by omega, rfl⟩ : ED _ _ _ _ _) _ (Same.refl _) _ fun one H1 s1 r1 => ?_)
  have r1 : Im H1 (cardD (lawCard h w)) one := r1
  refine rsc_set 4 (re_lams (c := c) (P := P) TB hc (hT.ext s1) ?_ (by show 3 ≤ 16777216; decide) fun p2 v2 H2 e2 T2 a2 b2 => ?_)
  · exact (show ∀ e ∈ _, isLamB (defScope sCalls) e = true by decide +kernel)
  refine rsc_set 4 (re_more 4 (c := c) (P := P) TB hc T2 rfl a2 b2 ?_ (by show 6 ≤ 16777216; decide) fun p3 v3 H3 e3 T3 a3 b3 => ?_)
  · exact (show ∀ e ∈ _, isLamB (defScope sCalls) e = true by decide +kernel)
  refine rsc_set 4 (re_more 4 (c := c) (P := P) TB hc T3 rfl a3 b3 ?_ (by show 8 ≤ 16777216; decide) fun p4 v4 H4 e4 T4 a4 b4 => ?_)
  · exact (show ∀ e ∈ _, isLamB (defScope sCalls) e = true by decide +kernel)
  refine rsc_set 4 (re_more 4 (c := c) (P := P) TB hc T4 rfl a4 b4 ?_ (by show 10 ≤ 16777216; decide) fun p5 v5 H5 e5 T5 a5 b5 => ?_)
  · exact (show ∀ e ∈ _, isLamB (defScope sCalls) e = true by decide +kernel)
  refine rsc_set 4 (re_more 4 (c := c) (P := P) TB hc T5 rfl a5 b5 ?_ (by show 12 ≤ 16777216; decide) fun p6 v6 H6 e6 T6 a6 b6 => ?_)
  · exact (show ∀ e ∈ _, isLamB (defScope sCalls) e = true by decide +kernel)
  refine rsc_set 4 (re_more 4 (c := c) (P := P) TB hc T6 rfl a6 b6 ?_ (by show 14 ≤ 16777216; decide) fun p7 v7 H7 e7 T7 a7 b7 => ?_)
  · exact (show ∀ e ∈ _, isLamB (defScope sCalls) e = true by decide +kernel)
  refine rsc_ret (re_more 4 (c := c) (P := P) TB hc T7 rfl a7 b7 ?_ (by show 15 ≤ 16777216; decide) fun p8 v8 H8 e8 T8 a8 b8 => ?_)
  · exact (show ∀ e ∈ _, isLamB (defScope sCalls) e = true by decide +kernel)
  have eA : ExtN H H8 := (ExtN.same s1).trans (e2.trans (e3.trans (e4.trans (e5.trans (e6.trans (e7.trans e8))))))
  refine ⟨[.int (h : Nat), .str (txt w), u, one], rfl, fun i v e => ?_, fun H9 s9 C => q p8 v8 _ one H9 (eA.trans (ExtN.same s9)) (s9 _ _ a8) (lamVs_ext b8 (ExtN.same s9)) C ?_⟩
  · match i, e with
    | 0, e => cases e; rfl
    | 1, e => cases e; rfl
    | 2, e => cases e; rfl
    | 3, e => cases e; rfl
  · exact r1.mono ((Tk.extN (e2.trans (e3.trans (e4.trans (e5.trans (e6.trans (e7.trans e8))))))).trans (Tk.of s9))
end Dw
/-! Dw: often -/
namespace Dw
open PySem PySem.Spec PyProof.Rows L2 LamX
abbrev sOften : Stmt := topS 42
abbrev nOften : List Str := ["one", "times"]
theorem scOften : FnScope nOften ["one", "times"] (defScope sOften) := ⟨rfl, rfl, rfl, by decide +kernel, rfl, by decide +kernel, by decide +kernel⟩
def gTwo {α : Type} : List α → List α → List α
  | [a], [b] => [a, b]
  | _, _ => []
/-- a def with a keyword-only parameter -/
structure DfK (m : Md) (x : Str) (st : Stmt) (ps ks : List Str) : Prop where
  ex : ∃ (f : Addr) (fd : FuncData), Fun m.K x x st f fd ∧ m.mg x = some (.ref f) ∧ KBinds m.K fd ps ks gTwo gTwo
theorem gTwo_rel {vs zs : List V} {us ws : List Value} (a : Vals vs us) (b : Vals zs ws) : Vals (gTwo vs zs) (gTwo us ws) := by
  cases a with
  | nil => exact .nil
  | cons a as =>
    cases as with
    | nil =>
      cases b with
      | nil => exact .nil
      | cons b bs =>
        cases bs with
        | nil => exact .cons a (.cons b .nil)
        | cons _ _ => exact .nil
    | cons _ _ => exact .nil
theorem often_binds {m : Md} {f : Addr} {fd : FuncData} (F : Fun m.K "often" "often" sOften f fd) : KBinds m.K fd ["one", "times"] ["times"] gTwo gTwo := by
  obtain ⟨oc, od, kV, doc, pm, an, cdv, ct, osl, rfl, lk, hcd⟩ := F.ex
  refine ⟨fun s us ws _ hl => ?_, gTwo_rel⟩
  match us, ws, hl with
  | [a], [b], _ => exact BindsTo.of_eq rfl
def φOften (ss : List Sl) (r : Sl) : Prop := ∃ (h : Nat) (t : Nat) (c : Card), ss = [.dat (cardD c), .dat (.int t)] ∧ 1 ≤ h ∧ h ≤ 6 ∧ Shape h c ∧ CardB c ∧ t ≤ 100 ∧ r = .dat (cardD (powerM c t))
structure KOften (m : Md) : Prop where
  ex : ∃ (f : Addr) (fd : FuncData), FnOk m.P m.w m.K m.mg m.base CX0 3 f fd ["one", "times"] (SpS φOften) ∧ m.mg "often" = some (.ref f) ∧ PySem.W.keepIn m.K (.ref f) = true ∧ KBinds m.K fd ["one", "times"] ["times"] gTwo gTwo
theorem kn_often {m : Md} (T : Tx m) (K1 : KNeedCard m) (K2 : KNeedCount m) (K3 : KPower m) (F : DfK m "often" sOften ["one", "times"] ["times"]) : KOften m := by
  obtain ⟨f, fd, g1, g2, g3⟩ := F.ex
  obtain ⟨tt, ht⟩ := T.times
  refine ⟨f, fd, okS g1 scOften (fun ss r ⟨_, _, _, e, _⟩ => by rw [e]; rfl) fun rt ss r H σ hφ hr nd G => ?_, g2, g1.kp, g3⟩
  obtain ⟨h, t, c, rfl, h1, h6, S, CB, ht6, rfl⟩ := hφ
  refine rss_expr (ed_call K1 (as_d (vd 0) as_0) ⟨h, c, rfl, h1, h6, S, CB, rfl⟩) fun H1 G => ?_
  refine rss_expr (ed_call K2 (as_d (vd 1) (as_d ed_int (as_d (ed_gI rfl ht) as_0))) ⟨t, 0, 1000000000000000000, rfl, by omega, by omega, rfl⟩) fun H1 G => ?_
  exact rss_retD (ed_call K3 (as_d (vd 0) (as_d (vd 1) as_0)) ⟨h, t, c, rfl, h6, S, rfl⟩)
section
variable {X : Cx} {H : Hp} {σ : L2.St} {c : Card} {e a b : Expr} {k : Nat} {p pos kpos : Pos}
/-- often(e, times=t) -/
theorem ed_often {h t : Nat} (K : KOften (mdOf X)) (ha : ED X a σ H (cardD c)) (hb : ED X b σ H (.int (t : Nat))) (h1 : 1 ≤ h) (h6 : h ≤ 6) (S : Shape h c) (CB : CardB c) (ht : t ≤ 100) (hr : Room k X.A) (hk : 3 ≤ k := by decide) (hg : Gl X "often" := by rfl)
    (hall : (backToKw pos (keywordEach [⟨some "times", b, kpos⟩] X.env)).all (·.1.isSome) = true := by rfl) (hks : (backToKw pos (keywordEach [⟨some "times", b, kpos⟩] X.env)).filterMap (·.1) = [("times" : Str)] := by rfl)
    (he : starEach [a] X.env = (false, eval a X.env) :: starEach [] X.env := by rfl) (hpl : ((backTo pos (starEach [a] X.env)).any (·.1) || (backToKw pos (keywordEach [⟨some "times", b, kpos⟩] X.env)).any (·.1.isNone)) = false := by rfl) :
    ED X (.Call (.Name "often" p) [a] [⟨some "times", b, kpos⟩] pos) σ H (cardD (powerM c t)) := by
  obtain ⟨f, fd, g1, g2, g3, g4⟩ := K.ex
  refine ev_pe (pe_callK (CX := CX0) (E := E0) g1 (hr.mono hk) hg g2 g3 g4 pass0 ra_pa (pk_cons re_pe pk_nil) hall hks (by decide) he hpl) fun H1 s1 Q q => ?_
  refine (ea_d ha ea_0 he).1 H1 s1 _ fun vs H2 s2 kk => ?_
  obtain ⟨v, rfl, hv⟩ := pd1 kk
  refine hb H2 (s1.trans s2) _ fun u H3 s3 hu => ?_
  exact ⟨[.dat (cardD c), .dat (.int t)], .dat (cardD (powerM c t)), .cons ⟨rfl, _, rfl, Im.mono (Tk.of s3) _ _ hv⟩ (.cons ⟨rfl, _, rfl, hu⟩ .nil), ⟨h, t, c, rfl, h1, h6, S, CB, ht, rfl⟩, fun x H4 s4 ⟨y, e1, q1⟩ => q _ _ ((s2.trans s3).trans s4) (by cases e1; exact q1)⟩
end
end Dw
/-! Dw: a text from its end -/
namespace Dw
open PySem PySem.Spec PyProof.Rows L2 LamX
def revS (z : Str) : Str := ⟨z.cps.toList.reverse.toArray⟩
theorem fm_congr {α β : Type} {f g : α → Option β} : ∀ {l : List α}, (∀ x ∈ l, f x = g x) → l.filterMap f = l.filterMap g
  | [], _ => rfl
  | x :: l, h => by
    rw [List.filterMap_cons, List.filterMap_cons, h x List.mem_cons_self, fm_congr fun y hy => h y (List.mem_cons_of_mem _ hy)]
theorem pick_rev {α : Type} (xs : List α) : ((List.range xs.length).map fun k : Nat => ((xs.length : Int) - 1 + (-1) * (k : Int)).toNat).filterMap (fun i => xs[i]?) = xs.reverse := by
  apply List.ext_getElem?
  intro i
  rw [List.filterMap_map]
  have e : (List.range xs.length).filterMap ((fun i => xs[i]?) ∘ fun k : Nat => ((xs.length : Int) - 1 + (-1) * (k : Int)).toNat) = (List.range xs.length).filterMap (fun k => xs.reverse[k]?) := by
    apply fm_congr
    intro k hk
    have hk := List.mem_range.mp hk
    rw [List.getElem?_reverse hk]
    show xs[((xs.length : Int) - 1 + (-1) * (k : Int)).toNat]? = _
    have : ((xs.length : Int) - 1 + (-1) * (k : Int)).toNat = xs.length - 1 - k := by omega
    rw [this]
  rw [e]
  have e2 : ∀ ys : List α, (List.range ys.length).filterMap (fun k => ys[k]?) = ys := by
    intro ys
    induction ys with
    | nil => rfl
    | cons y ys ih =>
      rw [List.length_cons, List.range_succ_eq_map, List.filterMap_cons, List.filterMap_map]
      show y :: (List.range ys.length).filterMap (fun k => ys[k]?) = _
      rw [ih]
  have := e2 xs.reverse
  rw [List.length_reverse] at this
  rw [this]
theorem idx_rev (n : Nat) : Builtin.Str.strSliceIndices none none (-1) n = (List.range n).map fun k : Nat => ((n : Int) - 1 + (-1) * (k : Int)).toNat := by
  unfold Builtin.Str.strSliceIndices sliceRange
  simp only [show ¬ ((-1 : Int) > 0) from by decide, if_false]
  by_cases h : n = 0
  · subst h
    rfl
  · have h1 : ((n : Int) - 1 > -1) := by omega
    rw [if_pos h1]
    have h2 : (((n : Int) - 1 - -1 - -1 - 1) / -(-1)).toNat = n := by
      have : ((n : Int) - 1 - -1 - -1 - 1) = n := by omega
      rw [this]
      simp
    rw [h2]
section
variable {X : Cx} {e k : Expr} {te tk : TE} {pos p2 : Pos} {σ : L2.St} {H : Hp} {z : Str}
theorem pe_revS (he : PE X e te) (hk : PE X k tk) : PE X (.Subscript e (.Slice none none (some k) p2) pos) (fun σ H Q => te σ H fun x H1 => tk σ H1 fun y H2 => ∃ z, x = .str z ∧ y = .int (-1) ∧ z.length ≤ sizeLine ∧ Q (.str (revS z)) H2) := by
  refine ⟨fun pins s σ H Q I h => ?_⟩
  refine Subscript_ (thn (he.run pins s σ H _ I h) fun v s1 ⟨x, H1, I1, r1, q1⟩ => ?_)
  refine wpAny_Slice ?_
  rw [evalPart_none]
  refine wpAny_pure (wpAny_pure ?_)
  rw [evalPart_some]
  refine thn (hk.run pins s1 σ H1 _ I1 q1) fun u s3 ⟨y, H3, I3, r3, z, e1, e2, hz, q⟩ => ?_
  subst e1
  subst e2
  obtain ⟨t, rfl⟩ := r1
  obtain ⟨tu, rfl⟩ := r3
  have I4 : Inv X pins σ H3 { s3 with heap := s3.heap.push { cls := .type "slice", data := .fields #[.none, .none, .int (-1) tu] } } := I3.kept (t' := s3.toks) fun b ob q => Heap.get?_push_of_some _ q
  refine tail_any (T := "str") (ops := [.ref s3.heap.objs.size, .str z t]) (typeIs_str _ _ _) F.slot_str_getitem.lookup ?_ (by with_unfolding_all rfl)
  refine wpAny_getItem_str_slice (l := none) (u := none) (st := some (-1, tu)) ⟨_, Heap.get?_push_size _ rfl, rfl, rfl⟩ rfl ?_
  have hp : (Builtin.Str.strSliceIndices none none (-1) z.length).filterMap (z.cps[·]?) = z.cps.toList.reverse := by
    rw [idx_rev]
    have := pick_rev z.cps.toList
    rw [Array.length_toList] at this
    rw [← this]
    show List.filterMap _ _ = List.filterMap _ _
    apply fm_congr
    intro i _
    rw [Array.getElem?_toList]
  show Made.post (if ((-1 : Int) == 1 && (Builtin.Str.strSliceIndices none none (-1) z.length).length == z.length) = true then Made.val (.str z t)
    else Made.str ⟨((Builtin.Str.strSliceIndices none none (-1) z.length).filterMap (z.cps[·]?)).toArray⟩) (EP X pins σ Q) _
  rw [if_neg (by simp), hp]
  refine ⟨?_, .str (revS z), H3, I4.tok _, ⟨_, rfl⟩, q⟩
  show z.cps.toList.reverse.toArray.size ≤ sizeLine
  rw [List.size_toArray, List.length_reverse, Array.length_toList]
  exact hz
theorem ed_revS (ha : ED X e σ H (.str z)) (hb : ED X k σ H (.int (-1))) (hz : z.length ≤ sizeLine) : ED X (.Subscript e (.Slice none none (some k) p2) pos) σ H (.str (revS z)) :=
  ev_pe (pe_revS re_pe re_pe) fun H1 s1 Q q => ha H1 s1 _ fun u H2 s2 hu => hb H2 (s1.trans s2) _ fun v H3 s3 hv => ⟨z, Im.ofStr hu, Im.ofInt hv, hz, q _ H3 (s2.trans s3) (im_str _)⟩
theorem revS_txt (w : List Nat) : revS (txt w) = txt w.reverse := by
  unfold revS txt
  rw [List.map_reverse]
end
end Dw
/-! Dw: the fifteen answers -/
namespace Dw
open PySem PySem.Spec PyProof.Rows L2 LamX
structure KAll (m : Md) (CU : Addr) : Prop where
  run : KRun m
  gone : KGone m
  card : KCard m
  made : KMade m
  joined : KJoined m
  often : KOften m
  alike : KAlike m
  parting : KParting m
  howMany : KHowMany m
  numberOf : KNumberOf m
  led : KLed m CU
  enough : KEnough m
  between : KBetween m
  rest : KRest m
  written : KWritten m
/-- what the draws are -/
structure Drw (h : Nat) (w : List Nat) (cr : List Int) : Prop where
  h1 : 1 ≤ h
  h6 : h ≤ 6
  W : Word h w
  hw : w.length ≤ 6
  hc : cr.length = h
  C : ∀ x ∈ cr, 0 ≤ x ∧ x ≤ 8
/-- the lambda's body, run: the answer r, or the refusal -/
def LamDo (m : Md) (CU : Addr) (k : Nat) (h : Nat) (w : List Nat) (cr : List Int) (e : Expr) (r : Sl) (bad : Prop) : Prop :=
  ∀ (cl : List (Str × Addr)) (f c' : Addr) (A : Around) (outer : List Env) (s : Shared) (H : Hp) (E : XK) (u one : V) (Q : VK),
    Room k (lcx m nCells qLam (lamOf e).scope cl f c' A outer s H E).A → Im H (rowD cr) u → Im H (cardD (lawCard h w)) one →
    (¬ bad → ∀ v H', Same H H' → SlOk H H' (some v) r → Q v H') → (bad → ∀ H', Same H H' → E (.ref CU) none H') →
    RE (lcx m nCells qLam (lamOf e).scope cl f c' A outer s H E) (lamOf e).body [some (V.int (h : Nat)), some (.str (txt w)), some u, some one] H Q
section
variable {m : Md} {CU : Addr} {h : Nat} {w : List Nat} {cr : List Int} {e : Expr} {d : PyData}
abbrev ΓL (h : Nat) (w : List Nat) (cr : List Int) : List Sl := [.dat (.int (h : Nat)), .dat (.str (txt w)), .dat (rowD cr), .dat (cardD (lawCard h w))]
theorem goodL {H : Hp} {u one : V} (h1 : Im H (rowD cr) u) (h2 : Im H (cardD (lawCard h w)) one) : Good H H [some (V.int (h : Nat)), some (.str (txt w)), some u, some one] (ΓL h w cr) :=
  start_good (N := nCells) (ss := ΓL h w cr) (by show 4 ≤ 4; decide) (.cons ⟨rfl, _, rfl, im_int _⟩ (.cons ⟨rfl, _, rfl, im_str _⟩ (.cons ⟨rfl, _, rfl, h1⟩ (.cons ⟨rfl, _, rfl, h2⟩ .nil))))
theorem lam_ed (he : ∀ (cl : List (Str × Addr)) (f c' : Addr) (A : Around) (outer : List Env) (s : Shared) (H : Hp) (E : XK) (σ : L2.St), Room 13 (lcx m nCells qLam (lamOf e).scope cl f c' A outer s H E).A → Good H H σ (ΓL h w cr) →
    ED (lcx m nCells qLam (lamOf e).scope cl f c' A outer s H E) (lamOf e).body σ H d) : LamDo m CU 13 h w cr e (.dat d) False := fun cl f c' A outer s H E u one Q hr h1 h2 q _ =>
  (he cl f c' A outer s H E _ hr (goodL h1 h2)) H (Same.refl _) _ fun v H' s1 hv => q not_false v H' s1 ⟨v, rfl, hv⟩
abbrev lamE (i : Nat) : Expr := lamEs.getD i (.Constant .none 0 ⟨0, 0, 0, 0⟩)
theorem rowD_crowd (D : Drw h w cr) : Crowd cr := fun x hx => by
  have := D.C x hx
  omega
theorem lam_0 (K : KAll m CU) (D : Drw h w cr) : LamDo m CU 13 h w cr (lamE 0) (.dat (rowD (runM w cr))) False := lam_ed fun cl f c' A outer s H E σ hr G =>
  ed_call (X := lcx _ _ _ _ _ _ _ _ _ _ _ _) K.run (as_d (vd 0) (as_d (vd 1) (as_d (vd 2) as_0))) ⟨h, w, cr, rfl, D.h1, D.h6, D.W, Nat.le_trans D.hw (by decide), D.hc, rowD_crowd D, rfl⟩
theorem Word.rev {h : Nat} {w : List Nat} (W : Word h w) : Word h w.reverse := fun d hd => W d (List.mem_reverse.mp hd)
theorem SlOk.base {B B' H : Hp} {o : Option V} {sl : Sl} (h : SlOk B' H o sl) (s : Same B B') (n : ∀ ds, sl ≠ .rls ds := by intro ds z; unfold ledM at z; split at z <;> cases z) : SlOk B H o sl := by
  cases sl with
  | un => trivial
  | dat d => exact h
  | lst ds => obtain ⟨l, vs, e1, e2, e3, q⟩ := h; exact ⟨l, vs, e1, s.free e2, e3, q⟩
  | rls ds => exact absurd rfl (n ds)
  | dic kvs => obtain ⟨l, vs, e1, e2, e3, q⟩ := h; exact ⟨l, vs, e1, s.free e2, e3, q⟩
  | raw v => exact h
theorem lam_1 (K : KAll m CU) (D : Drw h w cr) : LamDo m CU 13 h w cr (lamE 1) (.dat (.tuple [rowD (goneM h w cr).2.1, rowD (goneM h w cr).2.2])) False := lam_ed fun cl f c' A outer s H E σ hr G =>
  ed_call (X := lcx _ _ _ _ _ _ _ _ _ _ _ _) K.gone (as_d (vd 0) (as_d (vd 1) (as_d (vd 2) as_0))) ⟨h, w, cr, rfl, D.h1, D.h6, D.W, Nat.le_trans D.hw (by decide), D.hc, rowD_crowd D, rfl⟩

theorem lam_2 (K : KAll m CU) (D : Drw h w cr) : LamDo m CU 13 h w cr (lamE 2) (.dat (cardD (cardM h w))) False := lam_ed fun cl f c' A outer s H E σ hr G =>
  ed_call (X := lcx _ _ _ _ _ _ _ _ _ _ _ _) K.card (as_d (vd 0) (as_d (vd 1) as_0)) ⟨h, w, rfl, D.h1, D.h6, D.W, Nat.le_trans D.hw (by decide), rfl⟩

theorem lam_3 (K : KAll m CU) (D : Drw h w cr) : LamDo m CU 13 h w cr (lamE 3) (.dat (rowD (behindM cr (throughM (lawCard h w) cr)))) False := lam_ed fun cl f c' A outer s H E σ hr G =>
  ed_call (X := lcx _ _ _ _ _ _ _ _ _ _ _ _) K.made (as_d (vd 3) (as_d (vd 2) as_0)) ⟨h, lawCard h w, cr, rfl, D.h1, D.h6, lawCard_shape h w, (lawCard_low (Nat.le_trans D.hw (by decide))).cardB, D.hc, rowD_crowd D, rfl⟩

theorem lam_4 (K : KAll m CU) (D : Drw h w cr) : LamDo m CU 13 h w cr (lamE 4) (.dat (cardD (bothM (lawCard h w) (lawCard h w)))) False := lam_ed fun cl f c' A outer s H E σ hr G =>
  ed_call (X := lcx _ _ _ _ _ _ _ _ _ _ _ _) K.joined (as_d (vd 3) (as_d (vd 3) as_0)) ⟨h, lawCard h w, lawCard h w, rfl, D.h1, D.h6, lawCard_shape h w, lawCard_shape h w, (lawCard_low (Nat.le_trans D.hw (by decide))).cardB, (lawCard_low (Nat.le_trans D.hw (by decide))).cardB, rfl⟩

theorem lam_5 (K : KAll m CU) (D : Drw h w cr) : LamDo m CU 13 h w cr (lamE 5) (.dat (cardD (powerM (lawCard h w) 9))) False := lam_ed fun cl f c' A outer s H E σ hr G =>
  ed_often (X := lcx _ _ _ _ _ _ _ _ _ _ _ _) (t := 9) K.often (vd 3) ed_int D.h1 D.h6 (lawCard_shape h w) (lawCard_low (Nat.le_trans D.hw (by decide))).cardB (by decide) hr

theorem lam_6 (K : KAll m CU) (D : Drw h w cr) : LamDo m CU 13 h w cr (lamE 6) (.dat (partingM (cardM h w) (cardM h w.reverse))) False := lam_ed fun cl f c' A outer s H E σ hr G =>
  ed_call (X := lcx _ _ _ _ _ _ _ _ _ _ _ _) K.alike (as_d (vd 0) (as_d (vd 1) (as_d ((ed_revS (vd 1) (ed_neg ed_int) (by rw [txt_len]; exact small _ (Nat.le_trans D.hw (by decide)))).to (by rw [revS_txt])) as_0))) ⟨h, w, w.reverse, rfl, D.h1, D.h6, D.W, Nat.le_trans D.hw (by decide), D.W.rev, by rw [List.length_reverse]; exact Nat.le_trans D.hw (by decide), rfl⟩

theorem lam_7 (K : KAll m CU) (D : Drw h w cr) : LamDo m CU 13 h w cr (lamE 7) (.dat (partingM (lawCard h w) (lawCard h w))) False := lam_ed fun cl f c' A outer s H E σ hr G =>
  ed_call (X := lcx _ _ _ _ _ _ _ _ _ _ _ _) K.parting (as_d (vd 3) (as_d (vd 3) as_0)) ⟨h, lawCard h w, lawCard h w, rfl, D.h1, D.h6, lawCard_shape h w, lawCard_shape h w, (lawCard_low (Nat.le_trans D.hw (by decide))).cardB, (lawCard_low (Nat.le_trans D.hw (by decide))).cardB, rfl⟩

theorem lam_8 (K : KAll m CU) (D : Drw h w cr) : LamDo m CU 13 h w cr (lamE 8) (.dat (.int (waysM (cardM h w) h w.length (nothingM h)))) False := lam_ed fun cl f c' A outer s H E σ hr G =>
  ed_call (X := lcx _ _ _ _ _ _ _ _ _ _ _ _) K.howMany (as_d (vd 0) (as_d (vd 1) as_0)) ⟨h, w, rfl, D.h1, D.h6, D.W, D.hw, rfl⟩

theorem lam_9 (K : KAll m CU) (D : Drw h w cr) : LamDo m CU 13 h w cr (lamE 9) (.dat (.int (rankM (cardM h w) h w.length w w.length).2)) False := lam_ed fun cl f c' A outer s H E σ hr G =>
  ed_call (X := lcx _ _ _ _ _ _ _ _ _ _ _ _) K.numberOf (as_d (vd 0) (as_d (vd 1) as_0)) ⟨h, w, rfl, D.h1, D.h6, D.W, D.hw, rfl⟩

/-- led may refuse -/
abbrev badM (h : Nat) (w : List Nat) : Prop := PyData.eqv (cardD (cardM h w.reverse)) (cardD (cardM h w)) = false
theorem lam_10 (K : KAll m CU) (D : Drw h w cr) : LamDo m CU 13 h w cr (lamE 10) (ledM h w w.reverse) (badM h w) := fun cl f c' A outer s H E u one Q hr i1 i2 q qx => by
  obtain ⟨g, fd, g1, g2, g3, g4⟩ := K.led.ex
  have G := goodL i1 i2
  refine RE.of (pe_call (X := lcx _ _ _ _ _ _ _ _ _ _ _ _) (CX := L2.CX m.P m.w) (E := E) g1 (hr.mono (by decide)) (by rfl) g2 g3 g4 .nil (passes_call (W := fun cls d _ H => E cls d H) (takes_of rfl rfl rfl rfl) fun _ _ _ _ z => z) ra_pa (by decide) (by rfl) (by rfl)) ?_
  refine (ea_d (X := lcx _ _ _ _ _ _ _ _ _ _ _ _) (vd 0) (ea_d (vd 1) (ea_d ((ed_revS (vd 1) (ed_neg ed_int) (by rw [txt_len]; exact small _ (Nat.le_trans D.hw (by decide)))).to (by rw [revS_txt])) ea_0))).1 H (Same.refl _) _ fun vs H1 s1 kk => ?_
  have hv : vs = [V.int (h : Nat), .str (txt w), .str (txt w.reverse)] := by
    cases kk with
    | cons a1 kk =>
      obtain ⟨v2, v3, e, a2, a3⟩ := pd2 kk
      rw [e, Im.ofInt a1, Im.ofStr a2, Im.ofStr a3]
  rw [hv, List.append_nil]
  refine ⟨h, w, w.reverse, rfl, D.h1, D.h6, D.W, D.hw, D.W.rev, List.length_reverse, fun hq v H' s2 hv => q (fun z => absurd (hq.symm.trans z) (by decide)) v H' (s1.trans s2) (hv.base s1), fun hq H' s2 => qx hq H' (s1.trans s2)⟩

theorem lam_11 (K : KAll m CU) (D : Drw h w cr) : LamDo m CU 13 h w cr (lamE 11) (.dat (rowD (enoughM h w))) False := lam_ed fun cl f c' A outer s H E σ hr G =>
  ed_call (X := lcx _ _ _ _ _ _ _ _ _ _ _ _) K.enough (as_d (vd 0) (as_d (vd 1) as_0)) ⟨h, w, rfl, D.h1, D.h6, D.W, Nat.le_trans D.hw (by decide), rfl⟩

theorem lam_12 (K : KAll m CU) (D : Drw h w cr) : LamDo m CU 13 h w cr (lamE 12) (.dat (rowD (List.replicate cr.length 0))) False := lam_ed fun cl f c' A outer s H E σ hr G =>
  ed_call (X := lcx _ _ _ _ _ _ _ _ _ _ _ _) K.between (as_d (vd 2) (as_d (vd 2) as_0)) ⟨cr, rfl, by rw [D.hc]; exact D.h1, by rw [D.hc]; exact D.h6, rowD_crowd D, rfl⟩

theorem lam_13 (K : KAll m CU) (D : Drw h w cr) : LamDo m CU 13 h w cr (lamE 13) (.dat (restM h w cr)) False := lam_ed fun cl f c' A outer s H E σ hr G =>
  ed_call (X := lcx _ _ _ _ _ _ _ _ _ _ _ _) K.rest (as_d (vd 0) (as_d (vd 1) (as_d (vd 2) as_0))) ⟨h, w, cr, rfl, D.h1, D.h6, D.W, Nat.le_trans D.hw (by decide), D.hc, D.C, rfl⟩

theorem lam_14 (K : KAll m CU) (D : Drw h w cr) : LamDo m CU 13 h w cr (lamE 14) (.dat (.str (writtenM (lawCard h w)))) False := lam_ed fun cl f c' A outer s H E σ hr G =>
  ed_call (X := lcx _ _ _ _ _ _ _ _ _ _ _ _) K.written (as_d (vd 3) as_0) ⟨h, lawCard h w, rfl, D.h1, D.h6, lawCard_shape h w, (lawCard_low (Nat.le_trans D.hw (by decide))), rfl⟩
end
end Dw
/-! Dw: list.index, list.count of truth values -/
namespace Dw
open PySem PySem.Spec PyProof.Rows L2 LamX
def rCntF (K : PySem.W.Frag) : V → List V → Hp → VK → Prop := fun x xs H Q => ∃ (p : Addr) (ys : List V) (y : V), x = .ref p ∧ xs = [y] ∧ SqL K H p ys ∧ flatV y = true ∧ ys.all flatV = true ∧ Q (.int (ys.countP (fun z => eqV z y) : Nat)) H
theorem count_U {y : V} : ∀ {ys : List V} {us : List Value}, Vals ys us → ys.all flatV = true → us.countP (eqU y) = ys.countP (fun z => eqV z y)
  | _, _, .nil, _ => rfl
  | z :: ys, u :: us, .cons r t, f => by
    rw [List.all_cons, Bool.and_eq_true] at f
    rw [List.countP_cons, List.countP_cons, count_U t f.2, eqU_of r f.1]
theorem mt_lcountF {X : Cx} : MtR X "list.count" (rCntF X.K) := by
  intro pins s σ H x xs v us Q I rx rxs h
  obtain ⟨p, ys, y, rfl, rfl, hs, fy, fys, q⟩ := h
  cases rx
  obtain ⟨u, rfl, ru⟩ := rxs.one
  obtain ⟨its, rv, ⟨⟨cls, dd, data, sl⟩, n, ho, hc, hdn, hd⟩, hlen⟩ := I.list hs
  simp only at hc hd
  subst hc hd
  refine call_meets PySem.F.slot_list_count ⟨_, ho, rfl⟩ PySem.F.entry_list_count (PySem.F.args_list_count_2 _ _)
    (SeqAt.list_countAt p its.toArray n dd sl u (eqU y)) ⟨ho, fun u' hu' => mem_eqAt ru fy rv fys u' (by simpa using hu'), ?_⟩
  have ec : its.toArray.toList.countP (eqU y) = ys.countP (fun z => eqV z y) := count_U rv fys
  refine ⟨.int (ys.countP (fun z => eqV z y) : Nat), H, I.tok _, ⟨s.toks, ?_⟩, q⟩
  show Value.int ((its.toArray.toList.countP (eqU y) : Nat) : Int) s.toks = Value.int ((ys.countP (fun z => eqV z y) : Nat) : Int) s.toks
  rw [ec]
theorem bools_of {H : Hp} : ∀ {bs : List Bool} {vs : List V}, ImAll H (bs.map PyData.bool) vs → vs = bs.map V.bl
  | [], _, h => by simp only [List.map_nil, ImAll] at h; rw [h]; rfl
  | b :: bs, _, h => by
    obtain ⟨x, xs, e, h1, h2⟩ := ImAll.uncons (ds := bs.map PyData.bool) h
    rw [e, h1.ofBool, bools_of h2]
    rfl
theorem flat_bools (bs : List Bool) : (bs.map V.bl).all flatV = true := by
  rw [List.all_eq_true]
  intro x hx
  obtain ⟨b, _, rfl⟩ := List.mem_map.mp hx
  rfl
theorem count_bools : ∀ bs : List Bool, (bs.map V.bl).countP (fun z => eqV z (.bl true)) = bs.count true
  | [] => rfl
  | b :: bs => by
    rw [List.map_cons, List.countP_cons, List.count_cons, count_bools bs]
    cases b <;> rfl
section
variable {X : Cx} {H : Hp} {σ : L2.St} {a b : Expr} {bs : List Bool} {apos cpos : Pos}
theorem ed_countB (ha : ER X a σ H (bs.map PyData.bool)) (hb : ED X b σ H (.bool true)) (hbase : attributeBase a "count" X.env (eval a X.env) = eval a X.env := by rfl)
    (hfew : ((backTo cpos (starEach [b] X.env)).all (fun x => !x.1) && (backToKw cpos (keywordEach [] X.env)).all (fun x => x.1.isSome) && decide ([b].length + ([] : List Keyword).length + (if ([] : List Keyword).isEmpty then 0 else 1) < 30)) = true := by rfl)
    (hline : (apos.endLine == cpos.line) = true := by rfl) (hs : starEach [b] X.env = (false, eval b X.env) :: starEach [] X.env := by rfl) (hplain : (backTo cpos (starEach [] X.env)).any (·.1) = false := by rfl) :
    ED X (.Call (.Attribute a "count" apos) [b] [] cpos) σ H (.int (bs.count true : Nat)) :=
  ev_pe (pe_bm PySem.F.plainAttrs_list PySem.F.slot_list_count PySem.F.type_list_count mt_lcountF re_pe ra_pa hbase hfew hline hs hplain) fun H1 s1 Q q => ha H1 s1 _ fun u H2 s2 ⟨l, vs, e1, h1, h2⟩ => by
    have ev := bools_of h2
    refine ⟨by rw [e1]; exact Or.inl ⟨rfl, _, SqL.of h1⟩, (ea_d hb ea_0 hs).1 H2 (s1.trans s2) _ fun ws H3 s3 kk => ?_⟩
    obtain ⟨v, rfl, hv⟩ := pd1 kk
    exact ⟨l, vs, v, e1, rfl, SqL.of (s3 _ _ h1), by rw [Im.ofBool hv]; rfl, by rw [ev]; exact flat_bools bs, by rw [ev, Im.ofBool hv, count_bools]; exact q _ H3 (s2.trans s3) (im_int _)⟩
theorem ed_indexB (j : Nat) (hj : bs[j]? = some true) (hn : ∀ m, m < j → bs[m]? = some false) (ha : ER X a σ H (bs.map PyData.bool)) (hb : ED X b σ H (.bool true)) (hbase : attributeBase a "index" X.env (eval a X.env) = eval a X.env := by rfl)
    (hfew : ((backTo cpos (starEach [b] X.env)).all (fun x => !x.1) && (backToKw cpos (keywordEach [] X.env)).all (fun x => x.1.isSome) && decide ([b].length + ([] : List Keyword).length + (if ([] : List Keyword).isEmpty then 0 else 1) < 30)) = true := by rfl)
    (hline : (apos.endLine == cpos.line) = true := by rfl) (hs : starEach [b] X.env = (false, eval b X.env) :: starEach [] X.env := by rfl) (hplain : (backTo cpos (starEach [] X.env)).any (·.1) = false := by rfl) :
    ED X (.Call (.Attribute a "index" apos) [b] [] cpos) σ H (.int (j : Nat)) :=
  ev_pe (pe_bm PySem.F.plainAttrs_list PySem.F.slot_list_index PySem.F.type_list_index mt_index re_pe ra_pa hbase hfew hline hs hplain) fun H1 s1 Q q => ha H1 s1 _ fun u H2 s2 ⟨l, vs, e1, h1, h2⟩ => by
    have ev := bools_of h2
    refine ⟨by rw [e1]; exact Or.inl ⟨rfl, _, SqL.of h1⟩, (ea_d hb ea_0 hs).1 H2 (s1.trans s2) _ fun ws H3 s3 kk => ?_⟩
    obtain ⟨v, rfl, hv⟩ := pd1 kk
    refine ⟨l, vs, v, j, .bl true, e1, rfl, SqL.of (s3 _ _ h1), by rw [Im.ofBool hv]; rfl, by rw [ev]; exact flat_bools bs, by rw [ev, List.getElem?_map, hj]; rfl, by rw [Im.ofBool hv]; rfl, fun m z hm hz => ?_, q _ H3 (s2.trans s3) (im_int _)⟩
    rw [ev, List.getElem?_map, hn m hm] at hz
    cases hz
    rw [Im.ofBool hv]
    rfl
end
end Dw
/-! Dw: x(), x one of the fifteen -/
namespace Dw
open PySem PySem.Spec PyProof.Rows L2 LamX
def LamOK (e : Expr) : Prop := ∃ ps, LwS nCells ps (lamOf e).scope ∧ BindL (lamOf e) (dfOf e) ps
theorem ok_0 : LamOK (lamE 0) := ⟨[], lwS_by (by decide +kernel), rfl, fun s q cl doc pm cdv ctv => BindsTo.of_eq rfl⟩
theorem ok_1 : LamOK (lamE 1) := ⟨["_law_a"], lwS_by (by decide +kernel), _, rfl, fun s q cl doc pm cdv ctv T o u n ho hd => BindsTo.of_defaults rfl ho hd rfl rfl⟩
theorem ok_2 : LamOK (lamE 2) := ⟨["_law_b"], lwS_by (by decide +kernel), _, rfl, fun s q cl doc pm cdv ctv T o u n ho hd => BindsTo.of_defaults rfl ho hd rfl rfl⟩
theorem ok_3 : LamOK (lamE 3) := ⟨["_law_c"], lwS_by (by decide +kernel), _, rfl, fun s q cl doc pm cdv ctv T o u n ho hd => BindsTo.of_defaults rfl ho hd rfl rfl⟩
theorem ok_4 : LamOK (lamE 4) := ⟨["_law_e"], lwS_by (by decide +kernel), _, rfl, fun s q cl doc pm cdv ctv T o u n ho hd => BindsTo.of_defaults rfl ho hd rfl rfl⟩
theorem ok_5 : LamOK (lamE 5) := ⟨["_law_f"], lwS_by (by decide +kernel), _, rfl, fun s q cl doc pm cdv ctv T o u n ho hd => BindsTo.of_defaults rfl ho hd rfl rfl⟩
theorem ok_6 : LamOK (lamE 6) := ⟨["_law_g"], lwS_by (by decide +kernel), _, rfl, fun s q cl doc pm cdv ctv T o u n ho hd => BindsTo.of_defaults rfl ho hd rfl rfl⟩
theorem ok_7 : LamOK (lamE 7) := ⟨["_law_h"], lwS_by (by decide +kernel), _, rfl, fun s q cl doc pm cdv ctv T o u n ho hd => BindsTo.of_defaults rfl ho hd rfl rfl⟩
theorem ok_8 : LamOK (lamE 8) := ⟨["_law_i"], lwS_by (by decide +kernel), _, rfl, fun s q cl doc pm cdv ctv T o u n ho hd => BindsTo.of_defaults rfl ho hd rfl rfl⟩
theorem ok_9 : LamOK (lamE 9) := ⟨["_law_j"], lwS_by (by decide +kernel), _, rfl, fun s q cl doc pm cdv ctv T o u n ho hd => BindsTo.of_defaults rfl ho hd rfl rfl⟩
theorem ok_10 : LamOK (lamE 10) := ⟨["_law_k"], lwS_by (by decide +kernel), _, rfl, fun s q cl doc pm cdv ctv T o u n ho hd => BindsTo.of_defaults rfl ho hd rfl rfl⟩
theorem ok_11 : LamOK (lamE 11) := ⟨["_law_m"], lwS_by (by decide +kernel), _, rfl, fun s q cl doc pm cdv ctv T o u n ho hd => BindsTo.of_defaults rfl ho hd rfl rfl⟩
theorem ok_12 : LamOK (lamE 12) := ⟨["_law_n"], lwS_by (by decide +kernel), _, rfl, fun s q cl doc pm cdv ctv T o u n ho hd => BindsTo.of_defaults rfl ho hd rfl rfl⟩
theorem ok_13 : LamOK (lamE 13) := ⟨["_law_o"], lwS_by (by decide +kernel), _, rfl, fun s q cl doc pm cdv ctv T o u n ho hd => BindsTo.of_defaults rfl ho hd rfl rfl⟩
theorem ok_14 : LamOK (lamE 14) := ⟨["_law_p"], lwS_by (by decide +kernel), _, rfl, fun s q cl doc pm cdv ctv T o u n ho hd => BindsTo.of_defaults rfl ho hd rfl rfl⟩
/-- the closure e stands at v; r: its answer, bad: or it refuses -/
structure Clo (m : Md) (CU : Addr) (H : Hp) (v : V) (r : Sl) (bad : Prop) : Prop where
  ex : ∃ (e : Expr) (cells : List (Str × Addr)) (h : Nat) (w : List Nat) (cr : List Int) (u one : V), LamV H qLam cells e v ∧ CelT cells nCells [.int (h : Nat), .str (txt w), u, one] H ∧ Im H (rowD cr) u ∧ Im H (cardD (lawCard h w)) one ∧ LamDo m CU 13 h w cr e r bad ∧ LamOK e
theorem Clo.mono {m : Md} {CU : Addr} {H H' : Hp} {v : V} {r : Sl} {bad : Prop} (c : Clo m CU H v r bad) (s : Same H H') : Clo m CU H' v r bad := by
  obtain ⟨e, cells, h, w, cr, u, one, h1, h2, h3, h4, h5, h6⟩ := c.ex
  exact ⟨e, cells, h, w, cr, u, one, h1.ext (ExtN.same s), h2.ext (ExtN.same s), h3.mono (Tk.of s), h4.mono (Tk.of s), h5, h6⟩
theorem tk_un {cs : List Addr} {H : Hp} (t : CT cs H) : Tk H (unC cs H) := fun a xs e => by
  rw [unC_out (t.out e fun v z => by unfold CellX at z; cases z)]
  exact e
theorem slok_re {cs : List Addr} {H H' : Hp} {o : Option V} {r : Sl} (t : CT cs H) (hn : ∀ c ∈ cs, H' c = none) (h : SlOk (unC cs H) H' o r) : SlOk H (reC cs H H') o r := by
  have no : ∀ b u, H' b = some u → b ∉ cs := fun b u e z => by rw [hn b z] at e; cases e
  have s2 : Same H' (reC cs H H') := fun b u e => by rw [reC_out (no b u e)]; exact e
  cases r with
  | un => trivial
  | dat d => obtain ⟨v, e, q⟩ := h; exact ⟨v, e, q.mono (Tk.of s2)⟩
  | lst ds =>
    obtain ⟨l, vs, e1, e2, e3, q⟩ := h
    exact ⟨l, vs, e1, (unC_out (H := H) (no _ _ e3)).symm.trans e2, s2 _ _ e3, q.mono (Tk.of s2)⟩
  | rls ds =>
    obtain ⟨l, vs, e1, e2, q⟩ := h
    exact ⟨l, vs, e1, unC_same _ _ e2, q.mono (Tk.of unC_same)⟩
  | dic kvs =>
    obtain ⟨l, vs, e1, e2, e3, q1, q2⟩ := h
    exact ⟨l, vs, e1, (unC_out (H := H) (no _ _ e3)).symm.trans e2, s2 _ _ e3, q1, q2.mono (Tk.of s2)⟩
  | raw v => exact h
section
variable {X : Cx} {H : Hp} {σ : L2.St} {x : Str} {p1 p2 : Pos} {r : Sl} {bad : Prop} {CU : Addr} {v : V}
theorem re_lamcall {E : XK} {Q : VK} (i : Nat) (hx : ∀ pins σ' H' s e s', Inv X pins σ' H' s → L2.CX X.prog X.w X.stack H' s E e s' → X.xe e s') (hs : σ[i]? = some (some v)) (C : Clo (mdOf X) CU H v r bad) (hr : Room 14 X.A)
    (q : ¬ bad → ∀ v H', Same H H' → SlOk H H' (some v) r → Q v H') (qx : bad → ∀ H', Same H H' → E (.ref CU) none H')
    (hN : X.N[i]? = some x := by rfl) (hv : Vis X.env.scope x := by first | exact Or.inl rfl | exact Or.inr (Or.inl rfl) | exact Or.inr (Or.inr rfl)) (hd : (x == ("__debug__" : Str)) = false := by decide) (hcd : (x == ("__classdict__" : Str)) = false := by decide) :
    RE X (.Call (.Name x p1) [] [] p2) σ H Q := fun pins s I => by
  obtain ⟨e, cells, h, w, cr, u, one, ⟨f, rfl, hl⟩, C1, i1, i2, hdo, ps, S, hb⟩ := C.ex
  refine wpAny_Call_Name_kw (thn ((pe_var (pos := p1) (i := i) hN hv hd hcd).run pins s σ H (fun v H1 => v = .ref f ∧ H1 = H) I ⟨.ref f, hs, rfl, rfl⟩) fun u1 s1 ⟨v, H1, I1, r1, q1⟩ => ?_)
  obtain ⟨ev, eH⟩ := q1
  subst ev
  rw [eH] at I1
  obtain rfl : u1 = Value.ref f := r1
  have of1 : ∃ (od : Option Addr) (sl : Array (Option Value)) (fd : FuncData), s1.heap.get? f = some (⟨.type "function", od, .func fd, sl⟩ : Obj) := by
    obtain ⟨dV, c', h1, _⟩ := hl
    obtain ⟨⟨od, sl, doc, pm, ctv, ho⟩, _, _⟩ := I1.hok f _ h1
    exact ⟨od, sl, _, ho⟩
  obtain ⟨od, sl, fd, ho⟩ := of1
  refine PySem.W.callWith_F0 ⟨_, _, _, _, ho⟩ ?_
  have rc := run_lam (m := mdOf X) (E := E) (Q := Q) (k := 13) (outer := X.stack) S hb hr I1.env0 hl C1 fun c' hr' => by
    refine hdo _ f c' X.A X.stack s1 _ _ u one _ hr' (i1.mono (tk_un C1.all)) (i2.mono (tk_un C1.all)) (fun nb v H' s2 hv hn => ?_) (fun b H' s2 hn => ?_)
    · exact q nb v _ (same_re C1.all s2) (slok_re C1.all hn hv)
    · exact qx b _ (same_re C1.all s2)
  refine wpAny_call (codeAny_mono rc fun r s' hq => ?_)
  cases r with
  | error e => exact hx pins σ H s1 e s' I1 hq
  | ok fl =>
    cases fl with
    | ret u => exact I1.after hq
    | next => exact False.elim hq
    | brk => exact False.elim hq
    | cont => exact False.elim hq
end
end Dw
/-! Dw: _law_told -/
namespace Dw
open PySem PySem.Spec PyProof.Rows L2 LamX
abbrev sTold : Stmt := topS 64
abbrev nTold : List Str := ["_law_work", "_law_e", "_law_some", "_law_terms", "_law_term"]
theorem scTold : FnScope nTold ["_law_work"] (defScope sTold) := ⟨rfl, rfl, rfl, by decide +kernel, rfl, by decide +kernel, by decide +kernel⟩
/-- the errors' classes -/
structure Er (m : Md) (CU : Addr) : Prop where
  door : ∃ CD, m.mg "DoorError" = some (.ref CD) ∧ PySem.W.exmOne m.K (.ref CU) (.ref CD) = some true
  ec : ExcC m.K CU
  cls : ∀ x ∈ (["BadCrowd", "BadWork", "BadCard", "BadDeed", "BadText", "BadCount", "BadMeet", "BadNumber", "TooMany"] : List Str), ∃ C, m.mg x = some (.ref C) ∧ PySem.W.kitOne m.K (.ref CU) (.ref C) = some false
  unl : m.mg "Unlike" = some (.ref CU) ∧ PySem.W.kitOne m.K (.ref CU) (.ref CU) = some true
  isn : m.mg "isinstance" = none
abbrev refD : PyData := .tuple [.str "refused", .str "Unlike"]
def spTold (m : Md) (CU : Addr) : Sp := fun vs H Q _ => ∃ (v : V) (r : Sl) (bad : Prop), vs = [v] ∧ Clo m CU H v r bad ∧ (¬ bad → ∀ u H', Same H H' → SlOk H H' (some u) r → Q u H') ∧ (bad → ∀ u H', Same H H' → Im H' refD u → Q u H')
abbrev KTold (m : Md) (CU : Addr) := KnG m "_law_told" ["_law_work"] 15 (spTold m CU)
section
variable {X : Cx} {a : Addr} {oe : Obj} {pn : List (Addr × Obj)} {H : Hp} {σ : L2.St} {e c : Expr} {D C : Addr} {b : Bool} {p pos : Pos}
theorem ed_isE (T : ExcC X.K D) (hz : Zc (.ref D) none oe) (hf : ∃ vs, oe.data = .fields vs) (ha : EX (X.suite a ((a, oe) :: pn)) e σ H (.ref a)) (hc : EX (X.suite a ((a, oe) :: pn)) c σ H (.ref C)) (hk : PySem.W.kitOne X.K (.ref D) (.ref C) = some b)
    (hg : Gl (X.suite a ((a, oe) :: pn)) "isinstance") (hm : X.mg "isinstance" = none) (h1 : starEach [e, c] X.env = (false, eval e X.env) :: starEach [c] X.env := by rfl) (h2 : starEach [c] X.env = (false, eval c X.env) :: starEach [] X.env := by rfl) :
    ED (X.suite a ((a, oe) :: pn)) (.Call (.Name "isinstance" p) [e, c] [] pos) σ H (.bool b) :=
  ev_callB (call_isE T hz hf) hg hm (by rfl) (ea_x ha (ea_x hc ea_0 h2) h1) (fun H1 H2 vs Q k q => by
    obtain ⟨v, u, rfl, hv, hu⟩ := pd2 k
    refine ⟨.ref C, .ref C, b, by rw [show v = .ref a from hv, show u = .ref C from hu], fun u r => r, hk, q _ H2 (Same.refl _) (im_bool b)⟩) st_D h1 (by show (backTo pos (starEach [c] X.env)).any (·.1) = false; rw [h2]; rfl)
end
theorem kn_told {m : Md} {CU : Addr} (R : Er m CU) (F : Df m "_law_told" sTold ["_law_work"]) : KTold m CU := by
  obtain ⟨f, fd, h1, h2, h3⟩ := F.ex
  refine ⟨f, fd, ?_, h2, h1.kp, h3⟩
  refine h1.ok scTold (fun vs H Q E ⟨_, _, _, e, _⟩ => by rw [e]; rfl) fun cdv A outer s H vs Q E hr hsp => ?_
  obtain ⟨v, r, bad, rfl, hC, qn, qx⟩ := hsp
  have hr : Room 14 (cxD m nTold "_law_told" sTold f ⟨cdv, A, outer, s, H, E⟩).A := hr
  have nd : (cxD m nTold "_law_told" sTold f ⟨cdv, A, outer, s, H, E⟩).N.Nodup := scTold.nd
  obtain ⟨CD, d1, d2⟩ := R.door
  refine ⟨RSs (cxD m nTold "_law_told" sTold f ⟨cdv, A, outer, s, H, E⟩) (defBody sTold), rss_pss, ?_⟩
  obtain ⟨rt, ert⟩ : ∃ rt : Rt, rt = ⟨cdv, A, outer, s, H, E⟩ := ⟨_, rfl⟩
  rw [← ert] at hr nd ⊢
  refine rss_cons (RS.of (ps_try_as (X := cxD m nTold "_law_told" sTold f rt) (c := .ref CD) (i := 1) (Wout := fun _ _ _ _ => False)
    (tb := fun W D σ H => ∀ pn xe, Takes ((cxD m nTold "_law_told" sTold f rt).tr pn xe) W → RSs ((cxD m nTold "_law_told" sTold f rt).tr pn xe) _ D σ H)
    (ts := fun a cls d D σ H => ∀ oe pn, Zc cls d oe → (∃ vs, oe.data = .fields vs) → RSs ((cxD m nTold "_law_told" sTold f rt).suite a ((a, oe) :: pn)) (_ :: _) D σ H)
    rfl rfl nd rfl (by rfl) ⟨by rfl, by decide, .inl d1⟩ L2.takes0 (fun W pn xe tk _ => ⟨fun pins s σ H D I h => (h pn xe tk) pins s I⟩) (fun a oe cls d pn hz hf => ⟨fun pins s σ H D I h => (h oe pn hz hf) pins s I⟩)) ?_)
  intro pn xe tk
  refine rss_cons (RS.of (ps_ret re_pe) (re_lamcall (X := (cxD m nTold "_law_told" sTold f rt).tr pn xe) (E := fun cls d H' => cls = .ref CU ∧ d = none ∧ Same H H' ∧ bad) 0 (fun pins σ' H' s e s' I c => tk e s' (XE.of_call I (fun cls d H2 hE => ?_) c)) rfl hC hr (fun nb u H' s1 hu => qn nb u H' s1 hu) (fun b H' s1 => ⟨rfl, rfl, s1, b⟩)))
  obtain ⟨rfl, rfl, s2, hb⟩ := hE
  refine ⟨true, d2, fun _ a ha oe pn2 hz hf => ?_, fun z => by cases z⟩
  have hlen : σ'.length = 5 := I.len
  have G0 : Good H2 H2 σ' [.un, .un, .un, .un, .un] := ⟨Same.refl _, hlen, fun i sl o e1 _ => by
    match i, e1 with
    | 0, e1 => cases e1; trivial
    | 1, e1 => cases e1; trivial
    | 2, e1 => cases e1; trivial
    | 3, e1 => cases e1; trivial
    | 4, e1 => cases e1; trivial, fun i j si sj l _ e1 _ o1 _ _ _ => by
    match i, e1 with
    | 0, e1 => cases e1; cases o1
    | 1, e1 => cases e1; cases o1
    | 2, e1 => cases e1; cases o1
    | 3, e1 => cases e1; cases o1
    | 4, e1 => cases e1; cases o1⟩
  have G := G0.set (sl := .raw (.ref a)) (v := .ref a) 1 rfl rfl
  replace G := G.cast (show _ = [.un, .raw (.ref a), .un, .un, .un] from rfl)
  have nd2 : ((cxD m nTold "_law_told" sTold f rt).suite a ((a, oe) :: pn2)).N.Nodup := nd
  obtain ⟨C1, c1, k1⟩ := R.cls "BadCrowd" (by simp)
  obtain ⟨C2, c2, k2⟩ := R.cls "BadWork" (by simp)
  obtain ⟨C3, c3, k3⟩ := R.cls "BadCard" (by simp)
  obtain ⟨C4, c4, k4⟩ := R.cls "BadDeed" (by simp)
  obtain ⟨C5, c5, k5⟩ := R.cls "BadText" (by simp)
  obtain ⟨C6, c6, k6⟩ := R.cls "BadCount" (by simp)
  obtain ⟨C7, c7, k7⟩ := R.cls "BadMeet" (by simp)
  obtain ⟨C8, c8, k8⟩ := R.cls "BadNumber" (by simp)
  obtain ⟨C9, c9, k9⟩ := R.cls "TooMany" (by simp)
  obtain ⟨c0, k0⟩ := R.unl
  have hu : ((cxD m nTold "_law_told" sTold f rt).suite a ((a, oe) :: pn2)).A.units + 64 < cLine := hr.units
  refine rss_setN (X := (cxD m nTold "_law_told" sTold f rt).suite a ((a, oe) :: pn2)) 2 (en_lst (ds := [.bool false, .bool false, .bool false, .bool false]) (ea_d (ed_isE (X := cxD m nTold "_law_told" sTold f rt) (pn := pn2) (a := a) R.ec hz hf (vx 1) (ex_g (by rfl) c1) k1 (by rfl) R.isn) (ea_d (ed_isE (X := cxD m nTold "_law_told" sTold f rt) (pn := pn2) (a := a) R.ec hz hf (vx 1) (ex_g (by rfl) c2) k2 (by rfl) R.isn) (ea_d (ed_isE (X := cxD m nTold "_law_told" sTold f rt) (pn := pn2) (a := a) R.ec hz hf (vx 1) (ex_g (by rfl) c3) k3 (by rfl) R.isn) (ea_d (ed_isE (X := cxD m nTold "_law_told" sTold f rt) (pn := pn2) (a := a) R.ec hz hf (vx 1) (ex_g (by rfl) c4) k4 (by rfl) R.isn) ea_0))))) fun σ H3 G => ?_
  refine rss_setN (X := (cxD m nTold "_law_told" sTold f rt).suite a ((a, oe) :: pn2)) 2 (ev_cat (vl 2) (en_lst (ds := [.bool false, .bool false, .bool false]) (ea_d (ed_isE (X := cxD m nTold "_law_told" sTold f rt) (pn := pn2) (a := a) R.ec hz hf (vx 1) (ex_g (by rfl) c5) k5 (by rfl) R.isn) (ea_d (ed_isE (X := cxD m nTold "_law_told" sTold f rt) (pn := pn2) (a := a) R.ec hz hf (vx 1) (ex_g (by rfl) c6) k6 (by rfl) R.isn) (ea_d (ed_isE (X := cxD m nTold "_law_told" sTold f rt) (pn := pn2) (a := a) R.ec hz hf (vx 1) (ex_g (by rfl) c7) k7 (by rfl) R.isn) ea_0)))).er (by show 7 ≤ 16777216; decide)) fun σ H3 G => ?_
  refine rss_setN (X := (cxD m nTold "_law_told" sTold f rt).suite a ((a, oe) :: pn2)) 2 (ev_cat (vl 2) (en_lst (ds := [.bool false, .bool false, .bool true]) (ea_d (ed_isE (X := cxD m nTold "_law_told" sTold f rt) (pn := pn2) (a := a) R.ec hz hf (vx 1) (ex_g (by rfl) c8) k8 (by rfl) R.isn) (ea_d (ed_isE (X := cxD m nTold "_law_told" sTold f rt) (pn := pn2) (a := a) R.ec hz hf (vx 1) (ex_g (by rfl) c9) k9 (by rfl) R.isn) (ea_d (ed_isE (X := cxD m nTold "_law_told" sTold f rt) (pn := pn2) (a := a) R.ec hz hf (vx 1) (ex_g (by rfl) c0) k0 (by rfl) R.isn) ea_0)))).er (by show 10 ≤ 16777216; decide)) fun σ H3 G => ?_
  refine rss_setN (X := (cxD m nTold "_law_told" sTold f rt).suite a ((a, oe) :: pn2)) 3 (en_lst (ds := [.str "BadCrowd", .str "BadWork", .str "BadCard", .str "BadDeed", .str "BadText", .str "BadCount", .str "BadMeet", .str "BadNumber"]) (ea_d ed_str (ea_d ed_str (ea_d ed_str (ea_d ed_str (ea_d ed_str (ea_d ed_str (ea_d ed_str (ea_d ed_str ea_0))))))))) fun σ H3 G => ?_
  refine rss_setN (X := (cxD m nTold "_law_told" sTold f rt).suite a ((a, oe) :: pn2)) 3 (ev_cat (vl 3) (en_lst (ds := [.str "TooMany", .str "Unlike"]) (ea_d ed_str (ea_d ed_str ea_0))).er (by show 10 ≤ 16777216; decide)) fun σ H3 G => ?_
  replace G := G.cast (show _ = [.un, .raw (.ref a), .lst ([false, false, false, false, false, false, false, false, false, true].map PyData.bool), .lst [.str "BadCrowd", .str "BadWork", .str "BadCard", .str "BadDeed", .str "BadText", .str "BadCount", .str "BadMeet", .str "BadNumber", .str "TooMany", .str "Unlike"], .un] from rfl)
  refine rss_set (X := (cxD m nTold "_law_told" sTold f rt).suite a ((a, oe) :: pn2)) (d := .str "Unlike") 4 ((ed_if (d1 := .str "Unlike") (d2 := .str "other") (et_eqI hu (ed_countB (bs := [false, false, false, false, false, false, false, false, false, true]) (vl 2) ed_bl) ed_int) (fun _ => ed_ixL 9 (vl 3) (ed_indexB (bs := [false, false, false, false, false, false, false, false, false, true]) 9 rfl (fun m hm => by
    match m, hm with
    | 0, _ => rfl
    | 1, _ => rfl
    | 2, _ => rfl
    | 3, _ => rfl
    | 4, _ => rfl
    | 5, _ => rfl
    | 6, _ => rfl
    | 7, _ => rfl
    | 8, _ => rfl) (vl 2) ed_bl) rfl rfl) (fun _ => ed_str)).to (by rfl)) fun σ H3 G => ?_
  refine rss_ifF (X := (cxD m nTold "_law_told" sTold f rt).suite a ((a, oe) :: pn2)) (et_eqS (vd 4) ed_str) (by decide) fun H3 G => ?_
  refine rss_ifF (X := (cxD m nTold "_law_told" sTold f rt).suite a ((a, oe) :: pn2)) (et_eqS (vd 4) ed_str) (by decide) fun H3 G => ?_
  refine rss_ifF (X := (cxD m nTold "_law_told" sTold f rt).suite a ((a, oe) :: pn2)) (et_eqS (vd 4) ed_str) (by decide) fun H3 G => ?_
  refine rss_ifF (X := (cxD m nTold "_law_told" sTold f rt).suite a ((a, oe) :: pn2)) (et_eqS (vd 4) ed_str) (by decide) fun H3 G => ?_
  refine rss_ret (X := (cxD m nTold "_law_told" sTold f rt).suite a ((a, oe) :: pn2)) ((ed_addT (ed_tup (ds := [.str "refused", .str "Unlike"]) (ea_d ed_str (ea_d (vd 4) ea_0))) ((ed_if (d1 := .none) (d2 := .tuple []) (et_eqS (vd 4) ed_str) (fun z => absurd z (by decide)) (fun _ => ed_tup (ds := []) ea_0)).to (d' := .tuple []) (by rfl)) (by show 2 ≤ 16777216; decide)) : ED _ _ _ _ refD) (fun v H' s3 hv => qx hb v H' ((s2.trans G.same).trans s3) hv)
end Dw
/-! Dw: the answers as data -/
namespace Dw
open PySem PySem.Spec PyProof.Rows L2 LamX
def slD : Sl → PyData
  | .dat d => d
  | .lst ds => .list ds
  | _ => .none
/-- an answer: data, or a list of data; its data is shaped -/
structure AnsOk (r : Sl) : Prop where
  kind : (∃ d, r = .dat d ∧ ∀ ds, d ≠ .list ds) ∨ ∃ ds : List PyData, r = .lst ds ∧ ds.length ≤ 100000
  plain : Plain 3 (slD r)
open Classical in
noncomputable def toldL (h : Nat) (w : List Nat) : Sl := if badM h w then .dat refD else ledM h w w.reverse
noncomputable def toldM (h : Nat) (w : List Nat) (cr : List Int) : List Sl :=
  [.dat (rowD (runM w cr)), .dat (.tuple [rowD (goneM h w cr).2.1, rowD (goneM h w cr).2.2]), .dat (cardD (cardM h w)), .dat (rowD (behindM cr (throughM (lawCard h w) cr))), .dat (cardD (bothM (lawCard h w) (lawCard h w))), .dat (cardD (powerM (lawCard h w) 9)),
    .dat (partingM (cardM h w) (cardM h w.reverse)), .dat (partingM (lawCard h w) (lawCard h w)), .dat (.int (waysM (cardM h w) h w.length (nothingM h))), .dat (.int (rankM (cardM h w) h w.length w w.length).2), toldL h w, .dat (rowD (enoughM h w)), .dat (rowD (List.replicate cr.length 0)), .dat (restM h w cr), .dat (.str (writtenM (lawCard h w)))]
theorem path_word {h : Nat} {goal : Card} {L : Reach} : ∀ (d : Nat) (w : List Nat), Word h w → ∀ v ∈ pathM (besM h goal) L d w, Word h v
  | 0, w, _, v, hv => by simp [pathM] at hv
  | d + 1, w, W, v, hv => by
    have hh : Word h ((nears (besM h goal) L d w).headD []) := by
      cases e : nears (besM h goal) L d w with
      | nil => exact fun x hx => by simp at hx
      | cons u us =>
        have hu : u ∈ nears (besM h goal) L d w := by rw [e]; exact List.mem_cons_self
        have hu2 : u ∈ besM h goal w := (List.mem_filter.mp hu).1
        obtain ⟨k, hk, e2, _⟩ := bes_iff.mp hu2
        show Word h u
        rw [e2]
        exact swap_word W hk
    rw [pathM] at hv
    rcases List.mem_cons.mp hv with rfl | hv
    · exact hh
    · exact path_word d _ hh v hv
theorem path_len {B : List Nat → List (List Nat)} {L : Reach} : ∀ (d : Nat) (w : List Nat), (pathM B L d w).length = d
  | 0, _ => rfl
  | d + 1, w => by rw [pathM, List.length_cons, path_len d]
theorem plain_row3 (r : List Int) : Plain 3 (rowD r) := (plain_row r).up (by decide)
theorem ok_dat {d : PyData} (p : Plain 3 d) (n : ∀ ds, d ≠ .list ds := by intro ds z; cases z) : AnsOk (.dat d) := ⟨.inl ⟨d, rfl, n⟩, p⟩
theorem parting_ok (a b : Card) : AnsOk (.dat (partingM a b)) := by
  unfold partingM partRes
  split
  · exact ok_dat plain_none
  · split
    · refine ok_dat ((plain_tup (n := 0) fun d hd => ?_).up (by decide))
      rcases List.mem_append.mp hd with hd | hd
      · rcases List.mem_append.mp hd with hd | hd
        · rw [List.eq_of_mem_replicate hd]; exact plain_int _
        · rw [List.mem_singleton] at hd
          rw [hd]
          exact plain_int _
      · rw [List.eq_of_mem_replicate hd]; exact plain_int _
    · exact ok_dat plain_none
theorem bfs_inv {B : List Nat → List (List Nat)} {G : List Nat → Prop} {o : List Nat} (hB : ∀ w, G w → ∀ v ∈ B w, G v) : ∀ (f at_ : Nat) (L : Reach), Linv B G o at_ L → ∃ at', Linv B G o at' (bfsM B f at_ L)
  | 0, at_, L, I => ⟨at_, I⟩
  | f + 1, at_, L, I => by
    by_cases h : at_ < L.length
    · rw [bfsM, if_pos h]
      exact bfs_inv hB f _ _ (step_inv hB I h)
    · rw [bfs_end _ h]
      exact ⟨at_, I⟩
theorem dist_le {B : List Nat → List (List Nat)} {G : List Nat → Prop} {o : List Nat} {at_ : Nat} {L : Reach} (I : Linv B G o at_ L) (v : List Nat) : distOf L v ≤ L.length := by
  unfold distOf
  split
  · rename_i p hp
    have hm := List.mem_of_find?_eq_some hp
    obtain ⟨i, hi, e⟩ := List.mem_iff_getElem.mp hm
    have := I.dst i p (by rw [List.getElem?_eq_getElem hi, e])
    omega
  · exact Nat.zero_le _
theorem led_ok {h : Nat} {w : List Nat} {cr : List Int} (D : Drw h w cr) : AnsOk (toldL h w) := by
  unfold toldL
  split
  · exact ok_dat ((plain_tup (n := 0) fun d hd => by
      rcases List.mem_cons.mp hd with rfl | hd
      · exact plain_str (by decide +kernel)
      · rw [List.mem_singleton] at hd
        rw [hd]
        exact plain_str (by decide +kernel)).up (by decide))
  · rename_i nb
    have heq : PyData.eqv (cardD (cardM h w.reverse)) (cardD (cardM h w)) = true := by
      cases e : PyData.eqv (cardD (cardM h w.reverse)) (cardD (cardM h w)) with
      | true => rfl
      | false => exact absurd e nb
    unfold ledM
    split
    · have I0 : Linv (besM h (cardM h w)) (Kin h (cardM h w) w.reverse.length) w.reverse 0 [(w.reverse, 0)] := ⟨(show List.Nodup [w.reverse] from List.pairwise_singleton _ _), fun p hp => by
        rw [List.mem_singleton] at hp
        rw [hp]
        exact ⟨D.W.rev, rfl, heq⟩, rfl, fun i p hi hp => by
        cases i with
        | zero => exact absurd hi (by omega)
        | succ i => simp at hp, fun i p hi => absurd hi (by omega), by simp, fun i p hp => by
        have := List.mem_of_getElem? hp
        rw [List.mem_singleton] at this
        rw [this]
        exact Nat.zero_le _⟩
      obtain ⟨at', I⟩ := bfs_inv kin_bes 46657 0 _ I0
      have hl := few (fun v (hv : Kin h (cardM h w) w.reverse.length v) => ⟨hv.1.up D.h6, hv.2.1⟩) (by rw [List.length_reverse]; exact D.hw) I
      have hd := dist_le I w
      refine ⟨.inr ⟨_, rfl, ?_⟩, ?_⟩
      · unfold txts
        rw [List.length_map, path_len]
        exact Nat.le_trans (Nat.le_trans hd hl) (by decide)
      · refine (plain_list (n := 0) fun d hd => ?_).up (by decide)
        obtain ⟨v, hv, rfl⟩ := List.mem_map.mp hd
        exact plain_txt ((path_word _ _ D.W v hv).up D.h6)
    · exact ok_dat plain_none
theorem told_ok {h : Nat} {w : List Nat} {cr : List Int} (D : Drw h w cr) : ∀ r ∈ toldM h w cr, AnsOk r := by
  intro r hr
  unfold toldM at hr
  simp only [List.mem_cons, List.not_mem_nil, or_false] at hr
  rcases hr with rfl | rfl | rfl | rfl | rfl | rfl | rfl | rfl | rfl | rfl | rfl | rfl | rfl | rfl | rfl
  · exact ok_dat (plain_row3 _)
  · exact ok_dat ((plain_tup (n := 1) fun d hd => by
      rcases List.mem_cons.mp hd with rfl | hd
      · exact plain_row _
      · rw [List.mem_singleton] at hd
        rw [hd]
        exact plain_row _).up (by decide))
  · exact ok_dat ((plain_card _).up (by decide))
  · exact ok_dat (plain_row3 _)
  · exact ok_dat ((plain_card _).up (by decide))
  · exact ok_dat ((plain_card _).up (by decide))
  · exact parting_ok _ _
  · exact parting_ok _ _
  · exact ok_dat (plain_int _)
  · exact ok_dat (plain_int _)
  · exact led_ok D
  · exact ok_dat (plain_row3 _)
  · exact ok_dat (plain_row3 _)
  · unfold restM
    exact ok_dat ((plain_tup (n := 1) fun d hd => by
      rcases List.mem_cons.mp hd with rfl | hd
      · exact plain_int _
      · rw [List.mem_singleton] at hd
        rw [hd]
        exact plain_row _).up (by decide))
  · exact ok_dat (plain_str (strOk_written (lawCard_low (Nat.le_trans D.hw (by decide)))))
end Dw
/-! Dw: lists of answers -/
namespace Dw
open PySem PySem.Spec PyProof.Rows L2 LamX
/-- the closure at v tells t -/
def CloT (m : Md) (CU : Addr) (H : Hp) (t : Sl) (v : V) : Prop := ∃ r bad, Clo m CU H v r bad ∧ (¬ bad → t = r) ∧ (bad → t = .dat refD)
theorem CloT.mono {m : Md} {CU : Addr} {H H' : Hp} {v : V} {t : Sl} (c : CloT m CU H t v) (s : Same H H') : CloT m CU H' t v := let ⟨r, bad, h1, h2, h3⟩ := c; ⟨r, bad, h1.mono s, h2, h3⟩
theorem clos_of {m : Md} {CU : Addr} {H : Hp} {h : Nat} {w : List Nat} {cr : List Int} {fs : List V} {cells : List (Str × Addr)} {u one : V} (K : KAll m CU) (D : Drw h w cr) (hv : Paired (LamV H qLam cells) lamEs fs) (C : CelT cells nCells [.int (h : Nat), .str (txt w), u, one] H)
    (i1 : Im H (rowD cr) u) (i2 : Im H (cardD (lawCard h w)) one) : Paired (CloT m CU H) (toldM h w cr) fs := by
  have mk : ∀ {e : Expr} {v : V} {r : Sl}, LamV H qLam cells e v → LamDo m CU 13 h w cr e r False → LamOK e → CloT m CU H r v := fun a b c => ⟨_, False, ⟨_, cells, h, w, cr, u, one, a, C, i1, i2, b, c⟩, fun _ => rfl, fun z => z.elim⟩
  replace hv : Paired (LamV H qLam cells) [lamE 0, lamE 1, lamE 2, lamE 3, lamE 4, lamE 5, lamE 6, lamE 7, lamE 8, lamE 9, lamE 10, lamE 11, lamE 12, lamE 13, lamE 14] fs := hv
  cases hv with | cons a0 hv => cases hv with | cons a1 hv => cases hv with | cons a2 hv => cases hv with | cons a3 hv => cases hv with | cons a4 hv => cases hv with | cons a5 hv => cases hv with | cons a6 hv => cases hv with | cons a7 hv => cases hv with | cons a8 hv => cases hv with | cons a9 hv => cases hv with | cons a10 hv => cases hv with | cons a11 hv => cases hv with | cons a12 hv => cases hv with | cons a13 hv => cases hv with | cons a14 hv =>
    cases hv
    exact .cons (mk a0 (lam_0 K D) ok_0) (.cons (mk a1 (lam_1 K D) ok_1) (.cons (mk a2 (lam_2 K D) ok_2) (.cons (mk a3 (lam_3 K D) ok_3) (.cons (mk a4 (lam_4 K D) ok_4) (.cons (mk a5 (lam_5 K D) ok_5) (.cons (mk a6 (lam_6 K D) ok_6) (.cons (mk a7 (lam_7 K D) ok_7) (.cons (mk a8 (lam_8 K D) ok_8) (.cons (mk a9 (lam_9 K D) ok_9)
      (.cons ⟨_, badM h w, ⟨_, cells, h, w, cr, u, one, a10, C, i1, i2, lam_10 K D, ok_10⟩, fun nb => by unfold toldL; rw [if_neg nb], fun b => by unfold toldL; rw [if_pos b]⟩
      (.cons (mk a11 (lam_11 K D) ok_11) (.cons (mk a12 (lam_12 K D) ok_12) (.cons (mk a13 (lam_13 K D) ok_13) (.cons (mk a14 (lam_14 K D) ok_14) .nil))))))))))))))
theorem pd_app {α β : Type} {F : α → β → Prop} : ∀ {xs xs2 : List α} {ys ys2 : List β}, Paired F xs ys → Paired F xs2 ys2 → Paired F (xs ++ xs2) (ys ++ ys2)
  | [], _, _, _, h, g => by cases h; exact g
  | x :: xs, _, _, _, h, g => by
    cases h with
    | cons h t => exact .cons h (pd_app t g)
section
variable {X : Cx} {B B0 H : Hp} {σ : L2.St} {a b c e iter tg elt : Expr} {pos p p1 p2 p3 tpos : Pos} {x y : Str} {Q : VK} {CU : Addr} {t : Sl} {v : V} {k : Nat} {fs : List V} {ts : List Sl}
theorem re_told (K : KTold (mdOf X) CU) (h1 : EX X e σ H v) (C : CloT (mdOf X) CU H t v) (ht : (∃ d, t = .dat d) ∨ ∃ ds, t = .lst ds) (q : ∀ u H', Same H H' → SlOk H H' (some u) t → Q u H') (hr : Room k X.A) (hk : 15 ≤ k := by decide) (hg : Gl X "_law_told" := by rfl)
    (hst : starEach [e] X.env = (false, eval e X.env) :: starEach [] X.env := by rfl) (hpl : (backTo pos (starEach [] X.env)).any (·.1) = false := by rfl) : RE X (.Call (.Name "_law_told" p) [e] [] pos) σ H Q := by
  obtain ⟨f, fd, g1, g2, g3, g4⟩ := K.ex
  obtain ⟨r, bad, C1, e1, e2⟩ := C
  refine RE.of (pe_call (CX := CX0) (E := E0) g1 (hr.mono hk) hg g2 g3 g4 .nil pass0 ra_pa (by decide) hst hpl) ((ea_x h1 ea_0 hst).1 H (Same.refl _) _ fun vs H1 s1 kk => ?_)
  obtain ⟨u, rfl, hu⟩ := pd1 kk
  rw [List.append_nil, show u = v from hu]
  refine ⟨v, r, bad, rfl, C1.mono s1, fun nb u H' s2 hu => q u H' (s1.trans s2) ?_, fun b u H' s2 hu => q u H' (s1.trans s2) ?_⟩
  · have e := e1 nb
    subst e
    rcases ht with ⟨d, rfl⟩ | ⟨ds, rfl⟩
    · exact hu
    · obtain ⟨l, vs, a1, a2, a3, a4⟩ := hu
      exact ⟨l, vs, a1, s1.free a2, a3, a4⟩
  · rw [e2 b]
    exact ⟨u, rfl, hu⟩
/-- [elt for x in a list], the elements answered one by one -/
theorem lc_vals {scope : Scope} {own : List (Str × Nat)} (n : Nat) (hi : EX X iter σ H (.ref l)) (hl : H l = some (.lst fs)) (hlen : ts.length = fs.length) (hz : fs.length ≤ 1000) (ok : BlkOk X.N X.env.scope scope own)
    (he : ∀ (i : Nat) (t : Sl) (v : V) (H1 : Hp) (Q' : VK), ts[i]? = some t → fs[i]? = some v → Same H H1 → (∀ u H2, Same H1 H2 → SlOk H1 H2 (some u) t → Q' u H2) → ∀ s0 H0 C cl fp, RE (X.blk s0 H0 scope (compEnvC scope cl C X.env) fp) elt ((wipe σ (own.map (·.2))).set n (some v)) H1 Q')
    (hk : ∀ t ∈ ts, (∃ d, t = .dat d) ∨ ∃ ds, t = .lst ds)
    (q : ∀ D vs H', Same H H' → H D = none → H' D = some (.lst vs) → Paired (fun t v => SlOk H H' (some v) t ∧ v ≠ .ref D) ts vs → Q (.ref D) H')
    (nd : X.N.Nodup := by assumption) (hn : n ∈ own.map (·.2) := by decide) (hni : X.N[n]? = some x := by rfl)
    (hx : ∀ (cl : List (Str × Addr)) (C : Addr), Loc (compEnvC scope cl C X.env).scope x := by first | exact fun _ _ => Or.inl rfl | exact fun _ _ => Or.inr rfl) (hf : ∀ (cl : List (Str × Addr)) (C : Addr), (scope.names.lookup x == some .cell) = true ∨ (compEnvC scope cl C X.env).scope.names.lookup x = some .local := by first | exact fun _ _ => .inr rfl | exact fun _ _ => .inl rfl)
    (hs : ∀ x, foldedSetIterable iter X.env x = pure x := by intro _; rfl) : LC X elt (.Name x p1) iter [] scope own σ H Q := by
  refine lc_w (g := gName n) (pi_list re_pe) ok (fun _ _ C cl _ => pg_name nd hni (hx cl C) (hf cl C)) hs (fun R R' k h => RE.imp h fun v H1 ⟨a, e1, q, r⟩ => ⟨a, e1, q, k _ _ r⟩) ?_
  refine hi H (Same.refl _) _ fun v H1 s1 ev => ⟨l, by rw [show v = .ref l from ev], ⟨fs, SqL.of (s1 _ _ hl)⟩, fun D hD => ?_⟩
  have sB : Same H (upd H1 D (.lst [])) := s1.trans (Same.new hD)
  refine ⟨fs.length, _, _, fun i H' => ∃ acc, H' D = some (.lst acc) ∧ (∀ b o, upd H1 D (.lst []) b = some o → b ≠ D → H' b = some o) ∧ Paired (fun t v => SlOk H H' (some v) t ∧ v ≠ .ref D) (ts.take i) acc, walk_list, ⟨[], upd_same, fun b o e _ => e, by rw [List.take_zero]; exact .nil⟩, fun i H' _ ⟨acc, a1, a2, a3⟩ => SqL.of (a2 _ _ (by rw [upd_ne (ne_of_none (s1 _ _ hl) hD)]; exact s1 _ _ hl) (ne_of_none (s1 _ _ hl) hD)), fun i x H' H'' hi p ⟨eH, ex⟩ => ?_, fun H' ⟨acc, a1, a2, a3⟩ => ?_⟩
  · subst eH
    have hi2 : i < ts.length := by omega
    have et := List.getElem?_eq_getElem hi2
    have eL := wipe_set1 (τ := σ) (o := some x) hn
    refine ⟨eL, fun s0 H0 C cl fp => ?_⟩
    have sH : Same H H'' := fun b o e => by
      have nb : b ≠ D := fun z => by
        have := s1 _ _ e
        rw [z, hD] at this
        cases this
      obtain ⟨acc, a1, a2, a3⟩ := p
      exact a2 b o (sB _ _ e) nb
    refine he i ts[i] x H'' _ et ex sH (fun u H4 s4 hu => ?_) s0 H0 C cl fp
    obtain ⟨acc, a1, a2, a3⟩ := p
    have hacc : acc.length = i := by rw [← Paired.length a3, List.length_take]; omega
    have nt : ∀ xs, H4 D ≠ some (.tup xs) := fun xs z => by rw [s4 _ _ a1] at z; cases z
    have up : ∀ {t : Sl} {v : V}, ((∃ d, t = .dat d) ∨ ∃ ds, t = .lst ds) → SlOk H H4 (some v) t → v ≠ .ref D → SlOk H (upd H4 D (.lst (acc ++ [u]))) (some v) t := fun {t v} hk h nd => by
      rcases hk with ⟨d, rfl⟩ | ⟨ds, rfl⟩
      · obtain ⟨v', e1, h1⟩ := h
        exact ⟨v', e1, h1.mono (Tk.upd nt)⟩
      · obtain ⟨l', vs, e1, e2, e3, e4⟩ := h
        have nl : l' ≠ D := fun z => nd (by rw [← z]; exact Option.some.inj e1)
        exact ⟨l', vs, e1, e2, by rw [upd_ne nl]; exact e3, e4.mono (Tk.upd nt)⟩
    refine ⟨acc, s4 _ _ a1, by rw [hacc]; have : sizeLine = 16777216 := rfl; omega, acc ++ [u], upd_same, fun b o e nb => by rw [upd_ne nb]; exact s4 _ _ (a2 b o e nb), ?_⟩
    rw [List.take_add_one, et]
    refine pd_app (Paired.mapI a3 fun t v ht ⟨z1, z2⟩ => ⟨up (hk t (List.mem_of_mem_take ht)) (z1.mono s4) z2, z2⟩) (.cons ?_ .nil)
    have nu : u ≠ .ref D := fun z => by
      rcases hk ts[i] (List.getElem_mem hi2) with ⟨d, e⟩ | ⟨ds, e⟩
      · rw [e] at hu
        obtain ⟨v', e1, h1⟩ := hu
        cases e1
        rw [z] at h1
        cases d with
        | tuple ds =>
          obtain ⟨a, xs, e2, h2, _⟩ := h1.ofTup
          cases e2
          exact nt _ h2
        | none => simp [Im] at h1
        | bool _ => simp [Im] at h1
        | int _ => simp [Im] at h1
        | str _ => simp [Im] at h1
        | list _ => simp [Im] at h1
        | dict _ => simp [Im] at h1
      · rw [e] at hu
        obtain ⟨l', vs, e1, e2, e3, e4⟩ := hu
        cases e1
        cases z
        rw [a1] at e2
        cases e2
    refine ⟨up (hk _ (List.getElem_mem hi2)) (hu.base sH (fun ds z => ?_)) nu, nu⟩
    rcases hk ts[i] (List.getElem_mem hi2) with ⟨d, e⟩ | ⟨ds, e⟩ <;> rw [e] at z <;> cases z
  · refine q D acc H' (fun b o e => a2 b o (sB _ _ e) (fun z => ?_)) (s1.free hD) a1 ?_
    · have := s1 _ _ e
      rw [z, hD] at this
      cases this
    · rw [← hlen, List.take_length] at a3
      exact a3
end
end Dw
/-! Dw: isinstance(x, list) of an answer -/
namespace Dw
open PySem PySem.Spec PyProof.Rows L2 LamX
def isLst : Sl → Bool
  | .lst _ => true
  | _ => false
theorem ty_dat {K : PySem.W.Frag} {H : Hp} : ∀ {d : PyData} {v : V}, Im H d v → ∃ t : String, TyX K H v (.type t) ∧ PySem.W.kitOne K (.type t) (.type "list") = some false
  | .none, v, h => by rw [h.ofNone]; exact ⟨_, .base .non, kit_ty (by decide +kernel)⟩
  | .bool b, v, h => by rw [h.ofBool]; exact ⟨_, .base (.bl b), kit_ty (by decide +kernel)⟩
  | .int i, v, h => by rw [h.ofInt]; exact ⟨_, .base (.int i), kit_ty (by decide +kernel)⟩
  | .str x, v, h => by rw [h.ofStr]; exact ⟨_, .base (.str x), kit_ty (by decide +kernel)⟩
  | .tuple ds, v, h => by
    obtain ⟨a, xs, e, h1, h2⟩ := h.ofTup
    rw [e]
    exact ⟨_, .base (.tup h1), kit_ty (by decide +kernel)⟩
  | .list _, _, h => by simp [Im] at h
  | .dict _, _, h => by simp [Im] at h
theorem ty_ans {K : PySem.W.Frag} {B H : Hp} {t : Sl} {v : V} (h : SlOk B H (some v) t) (hk : (∃ d, t = .dat d) ∨ ∃ ds, t = .lst ds) : ∃ T : String, TyX K H v (.type T) ∧ PySem.W.kitOne K (.type T) (.type "list") = some (isLst t) := by
  rcases hk with ⟨d, rfl⟩ | ⟨ds, rfl⟩
  · obtain ⟨v', e, h⟩ := h
    cases e
    exact ty_dat h
  · obtain ⟨l, vs, e, _, h1, _⟩ := h
    cases e
    exact ⟨_, .base (.lst h1), kit_ty (r := true) (by decide +kernel)⟩
section
variable {X : Cx} {B H : Hp} {σ : L2.St} {e : Expr} {pos p p2 : Pos} {t : Sl} {v : V}
theorem et_isL (hm : X.mg "isinstance" = none) (hml : X.mg "list" = none) (h1 : EX X e σ H v) (hv : SlOk B H (some v) t) (hk : (∃ d, t = .dat d) ∨ ∃ ds, t = .lst ds) (hg : Gl X "isinstance" := by rfl) (hgl : Gl X "list" := by rfl)
    (hst : starEach [e, .Name "list" p2] X.env = (false, eval e X.env) :: starEach [.Name "list" p2] X.env := by rfl) (hst2 : starEach [.Name "list" p2] X.env = (false, eval (.Name "list" p2) X.env) :: starEach [] X.env := by rfl) (hpl : (backTo pos (starEach [.Name "list" p2] X.env)).any (·.1) = false := by rfl)
    (he : ∀ whole, isTrue (.Call (.Name "isinstance" p) [e, .Name "list" p2] [] pos) X.env whole = (do let v ← whole; standAt (Expr.Call (.Name "isinstance" p) [e, .Name "list" p2] [] pos).pos; holding [v] (truthy v)) := by intro _; rfl) :
    ET X (.Call (.Name "isinstance" p) [e, .Name "list" p2] [] pos) σ H (isLst t) := fun H1 s1 Q q => by
  refine RT.of (pt_val (pe_callB call_isi hg hm PyProof.Rows.boot_isinstance (pa_cons re_pe (pa_cons (pe_bltn hgl hml PyProof.Rows.boot_list (v := .ty "list") rfl) pa_nil hst2) hst) (by decide) (by decide) hst hpl) he) ?_
  refine h1 H1 s1 _ fun u H2 s2 hu => ?_
  obtain ⟨T, ty, kt⟩ := ty_ans (K := X.K) (hv.mono (s1.trans s2)) hk
  refine ⟨u, .ty "list", .type T, .type "list", isLst t, rfl, .ty _, by rw [show u = v from hu]; exact ty, kt, ?_⟩
  exact ⟨_, rfl, q _ s2⟩
end
end Dw
/-! Dw: list(x) if isinstance(x, list) else x -/
namespace Dw
open PySem PySem.Spec PyProof.Rows L2 LamX
section
variable {X : Cx} {B H : Hp} {σ : L2.St} {c e e' : Expr} {pos p p2 : Pos} {t : Sl} {v : V} {Q : VK}
theorem re_copy (hc : ET X c σ H (isLst t)) (hml : X.mg "list" = none) (h1 : EX X e σ H v) (h2 : EX X e' σ H v) (hv : SlOk B H (some v) t) (hk : (∃ d, t = .dat d) ∨ ∃ ds, t = .lst ds) (q : ∀ u H2, Same H H2 → SlOk H H2 (some u) t → Q u H2) (hgl : Gl X "list" := by rfl)
    (hst : starEach [e] X.env = (false, eval e X.env) :: starEach [] X.env := by rfl) : RE X (.IfExp c (.Call (.Name "list" p) [e] [] p2) e' pos) σ H Q := by
  rcases hk with ⟨d, rfl⟩ | ⟨ds, rfl⟩
  · obtain ⟨v', e1, hi⟩ := hv
    cases e1
    have hd : ED X e' σ H d := h2.imp fun H1 H2 u s1 s2 hu => by rw [show u = v from hu]; exact Im.mono (Tk.of (s1.trans s2)) _ _ hi
    exact (ev_if hc (fun z => absurd (show false = true from z) (by decide)) (fun _ => hd) st_D : ED X _ σ H d) H (Same.refl _) _ fun u H2 s2 hu => q u H2 s2 ⟨u, rfl, hu⟩
  · obtain ⟨l, vs, e1, e2, e3, e4⟩ := hv
    cases e1
    have hr : ER X e σ H ds := h1.imp fun H1 H2 u s1 s2 hu => ⟨l, vs, hu, (s1.trans s2) _ _ e3, e4.mono (Tk.of (s1.trans s2))⟩
    exact (ev_if hc (fun _ => en_listL hgl hml hr hst) (fun z => absurd (show true = false from z) (by decide)) st_N : EN X _ σ H ds) H (Same.refl _) _ fun u H2 s2 ⟨m, us, a1, a2, a3, a4⟩ => q u H2 s2 ⟨m, us, by rw [a1], a2, a3, a4⟩
end
/-- an answer as data -/
theorem ans_dp {K : PySem.W.Frag} {B H : Hp} {t : Sl} {v : V} (h : SlOk B H (some v) t) (hk : (∃ d, t = .dat d) ∨ ∃ ds, t = .lst ds) : Dp K H v (slD t) := by
  rcases hk with ⟨d, rfl⟩ | ⟨ds, rfl⟩
  · obtain ⟨v', e, hi⟩ := h
    cases e
    exact Im.dp _ _ hi
  · obtain ⟨l, vs, e1, _, e3, e4⟩ := h
    cases e1
    exact .lst (SqL.of e3) (ImAll.dp _ _ e4)
theorem ans_dps {K : PySem.W.Frag} {B H : Hp} : ∀ {ts : List Sl} {vs : List V}, Paired (fun t v => SlOk B H (some v) t) ts vs → (∀ t ∈ ts, (∃ d, t = .dat d) ∨ ∃ ds, t = .lst ds) → DpAll K H vs (ts.map slD)
  | [], _, h, _ => by cases h; exact .nil
  | t :: ts, _, h, hk => by
    cases h with
    | cons h r => exact .cons (ans_dp h (hk t List.mem_cons_self)) (ans_dps r fun x hx => hk x (List.mem_cons_of_mem _ hx))
end Dw
/-! Dw: the answers are spoilt -/
namespace Dw
open PySem PySem.Spec PyProof.Rows L2 LamX
/-- a is a list among the answers -/
def IsAns (ts : List Sl) (vs : List V) (a : Addr) : Prop := ∃ (i : Nat) (ds : List PyData), ts[i]? = some (.lst ds) ∧ vs[i]? = some (.ref a)
open Classical in
/-- the heap without them -/
noncomputable def noAns (ts : List Sl) (vs : List V) (H : Hp) : Hp := fun a => if IsAns ts vs a then none else H a
theorem noAns_out {ts : List Sl} {vs : List V} {H : Hp} {a : Addr} (h : ¬ IsAns ts vs a) : noAns ts vs H a = H a := by unfold noAns; rw [if_neg h]
theorem noAns_in {ts : List Sl} {vs : List V} {H : Hp} {a : Addr} (h : IsAns ts vs a) : noAns ts vs H a = none := by unfold noAns; rw [if_pos h]
theorem noAns_le {ts : List Sl} {vs : List V} {H : Hp} : Same (noAns ts vs H) H := fun a o e => by
  by_cases h : IsAns ts vs a
  · rw [noAns_in h] at e; cases e
  · rw [noAns_out h] at e; exact e
section
variable {X : Cx} {B H : Hp} {σ : L2.St} {e iter : Expr} {rest : List Stmt} {D : Ends} {x : Str} {pos p p1 p2 p3 p4 p5 p6 apos cpos ipos epos : Pos} {kk : Nat} {z : Str} {ts : List Sl} {vs : List V} {l : Addr}
theorem et_isTy {b : Bool} {v : V} (hm : X.mg "isinstance" = none) (hml : X.mg "list" = none) (h1 : EX X e σ H v) (hv : ∀ H1, Same H H1 → ∃ T : String, TyX X.K H1 v (.type T) ∧ PySem.W.kitOne X.K (.type T) (.type "list") = some b) (hg : Gl X "isinstance" := by rfl) (hgl : Gl X "list" := by rfl)
    (hst : starEach [e, .Name "list" p2] X.env = (false, eval e X.env) :: starEach [.Name "list" p2] X.env := by rfl) (hst2 : starEach [.Name "list" p2] X.env = (false, eval (.Name "list" p2) X.env) :: starEach [] X.env := by rfl) (hpl : (backTo pos (starEach [.Name "list" p2] X.env)).any (·.1) = false := by rfl)
    (he : ∀ whole, isTrue (.Call (.Name "isinstance" p) [e, .Name "list" p2] [] pos) X.env whole = (do let v ← whole; standAt (Expr.Call (.Name "isinstance" p) [e, .Name "list" p2] [] pos).pos; holding [v] (truthy v)) := by intro _; rfl) :
    ET X (.Call (.Name "isinstance" p) [e, .Name "list" p2] [] pos) σ H b := fun H1 s1 Q q => by
  refine RT.of (pt_val (pe_callB call_isi hg hm PyProof.Rows.boot_isinstance (pa_cons re_pe (pa_cons (pe_bltn hgl hml PyProof.Rows.boot_list (v := .ty "list") rfl) pa_nil hst2) hst) (by decide) (by decide) hst hpl) he) ?_
  refine h1 H1 s1 _ fun u H2 s2 hu => ?_
  obtain ⟨T, ty, kt⟩ := hv H2 (s1.trans s2)
  refine ⟨u, .ty "list", .type T, .type "list", b, rfl, .ty _, by rw [show u = v from hu]; exact ty, kt, ?_⟩
  exact ⟨_, rfl, q _ s2⟩
/-- for x in a list: if isinstance(x, list): x.append(..) -/
theorem rss_spoil (n : Nat) (hm : X.mg "isinstance" = none) (hml : X.mg "list" = none) (hi : EX X iter σ H (.ref l)) (hl : H l = some (.lst vs)) (hvs : Paired (fun t v => SlOk B H (some v) t ∧ v ≠ .ref l) ts vs) (hk : ∀ t ∈ ts, (∃ d, t = .dat d) ∨ ∃ ds : List PyData, t = .lst ds ∧ ds.length ≤ 100000) (hn : vs.length ≤ 1000)
    (q : ∀ o H', Same (noAns ts vs H) H' → RSs X rest D (σ.set n o) H') (hσ : n < σ.length)
    (nd : X.N.Nodup := by assumption) (hni : X.N[n]? = some x := by rfl) (hx : Loc X.env.scope x := by first | exact Or.inl rfl | exact Or.inr rfl) (hf : X.fn x = true ∨ X.env.scope.names.lookup x = some .local := by first | exact .inl rfl | exact .inr rfl)
    (hp : PassesOwn (model X.prog X.w) X.A X.env X.xe := by exact PassesOwn.never) (hc : X.calm = true := by rfl) (hs : ∀ x, foldedSetIterable iter X.env x = pure x := by intro _; rfl)
    (hg : Gl X "isinstance" := by rfl) (hgl : Gl X "list" := by rfl) (hd : (x == ("__debug__" : Str)) = false := by decide) (hcd : (x == ("__classdict__" : Str)) = false := by decide) (hv : Vis X.env.scope x := by first | exact Or.inl rfl | exact Or.inr (Or.inl rfl) | exact Or.inr (Or.inr rfl))
    (hline : (apos.endLine == cpos.line) = true := by rfl) :
    RSs X (.For (.Name x p) iter [.If (.Call (.Name "isinstance" p1) [.Name x p3, .Name "list" p2] [] ipos) [.Expr (.Call (.Attribute (.Name x p4) "append" apos) [.Constant (.str z) kk p5] [] cpos) epos] [] p6] [] pos :: rest) D σ H := by
  have ty : ∀ {i : Nat} {t : Sl} {v : V}, ts[i]? = some t → vs[i]? = some v → SlOk B H (some v) t ∧ v ≠ .ref l := fun {i t v} e1 e2 => by
    obtain ⟨v', e3, h⟩ := Paired.getP hvs e1
    rw [e2] at e3
    cases e3
    exact h
  have len := Paired.length hvs
  have hnl : ¬ IsAns ts vs l := fun ⟨i, ds, e1, e2⟩ => (ty e1 e2).2 rfl
  have tkN : Tk H (noAns ts vs H) := fun a xs e => by
    have : ¬ IsAns ts vs a := fun ⟨i, ds, e1, e2⟩ => by
      obtain ⟨l', us, f1, _, f3, _⟩ := (ty e1 e2).1
      cases f1
      rw [e] at f3
      cases f3
    rw [noAns_out this]
    exact e
  refine rss_for (pi_list re_pe) (pg_name nd hni hx hf) hp hc (hi H (Same.refl _) _ fun v H1 s1 hv1 => ?_) (fun R R' k h => RE.imp h fun v H1 ⟨a, e1, q, r⟩ => ⟨a, e1, q, k _ _ r⟩) hs
  have same_l : ∀ H', Same (noAns ts vs H) H' → H' l = some (.lst vs) := fun H' s => s _ _ (by rw [noAns_out hnl]; exact hl)
  refine ⟨l, hv1, ⟨vs, SqL.of (s1 _ _ hl)⟩, vs.length, _, _, fun i σ' H' => (σ' = σ ∨ ∃ o, σ' = σ.set n o) ∧ Same (noAns ts vs H) H' ∧ ∀ (j : Nat) (ds : List PyData) (a : Addr), ts[j]? = some (.lst ds) → vs[j]? = some (.ref a) → ∃ ys, H' a = some (.lst ys) ∧ ys.length ≤ 100000 + i, walk_list,
    ⟨.inl rfl, noAns_le.trans s1, fun j ds a e1 e2 => ?_⟩, fun i σ' H' _ ⟨_, s, _⟩ => SqL.of (same_l H' s), fun i u σ' H' H'' hi' ⟨hσ', sN, kl⟩ ⟨eH, ex⟩ => ?_, fun σ' H' ⟨hσ', sN, _⟩ => ?_⟩
  · obtain ⟨l', us, f1, _, f3, f4⟩ := (ty e1 e2).1
    cases f1
    refine ⟨us, s1 _ _ f3, ?_⟩
    rcases hk _ (List.mem_of_getElem? e1) with ⟨d, z⟩ | ⟨ds', z, hz⟩
    · cases z
    · cases z
      rw [f4.length]
      omega
  · subst eH
    have hi2 : i < ts.length := by omega
    have et := List.getElem?_eq_getElem hi2
    have hσ2 : ∃ o, σ'.set n (some u) = σ.set n o := by
      rcases hσ' with rfl | ⟨o, rfl⟩
      · exact ⟨_, rfl⟩
      · exact ⟨some u, by rw [List.set_set]⟩
    have su : (σ'.set n (some u))[n]? = some (some u) := by
      rcases hσ' with rfl | ⟨o, rfl⟩
      · rw [List.getElem?_set_self hσ]
      · rw [List.getElem?_set_self (by rw [List.length_set]; exact hσ)]
    have hex : ∀ {p : Pos} {H0 : Hp}, EX X (.Name x p) (σ'.set n (some u)) H0 u := fun {p H0} => ev_pe (pe_var hni hv hd hcd) fun H1 s Q k => ⟨u, su, k _ _ (Same.refl _) rfl⟩
    have tA := (ty et ex).1
    rcases hk _ (List.getElem_mem hi2) with ⟨d, ed⟩ | ⟨ds, ed, hz⟩
    · rw [ed] at tA
      obtain ⟨v', e1, hd'⟩ := tA
      cases e1
      refine rss_cons (RS.of (ps_if rt_pt rss_pss rss_pss) ((et_isTy (b := false) hm hml hex (fun H1 s => ty_dat (hd'.mono ((tkN.trans (Tk.of sN)).trans (Tk.of s)))) hg hgl) _ (Same.refl _) _ fun H2 s2 => iteF (rss_nil (rss_nil ⟨.inr hσ2, sN.trans s2, fun j ds a e1 e2 => ?_⟩))))
      obtain ⟨ys, a1, a2⟩ := kl j ds a e1 e2
      exact ⟨ys, s2 _ _ a1, by omega⟩
    · rw [ed] at tA et
      obtain ⟨a, us, e1, e2, e3, e4⟩ := tA
      cases e1
      obtain ⟨ys, a1, a2⟩ := kl i ds a et ex
      refine rss_cons (RS.of (ps_if rt_pt rss_pss rss_pss) ((et_isTy (b := true) hm hml hex (fun H1 s => ⟨_, .base (.lst (s _ _ a1)), kit_ty (by decide +kernel)⟩) hg hgl) _ (Same.refl _) _ fun H2 s2 => iteT ?_))
      refine rss_appV hex (s2 _ _ a1) ed_str (by have : sizeLine = 16777216 := rfl; omega) (fun v H3 H4 s3 s4 _ => rss_nil (rss_nil ⟨.inr hσ2, fun b o eb => ?_, fun j ds' a' f1 f2 => ?_⟩)) (hline := hline)
      · have nb : b ≠ a := fun z => by
          rw [z, noAns_in ⟨i, ds, et, ex⟩] at eb
          cases eb
        rw [upd_ne nb]
        exact (s3.trans s4) _ _ (s2 _ _ (sN _ _ eb))
      · by_cases ha : a' = a
        · rw [ha]
          exact ⟨_, upd_same, by rw [List.length_append]; simp; omega⟩
        · obtain ⟨ys', b1, b2⟩ := kl j ds' a' f1 f2
          exact ⟨ys', by rw [upd_ne ha]; exact (s3.trans s4) _ _ (s2 _ _ b1), by omega⟩
  · rcases hσ' with rfl | ⟨o, rfl⟩
    · have := q (σ'[n]'hσ) H' sN
      rw [List.set_getElem_self] at this
      exact this
    · exact q o H' sN
end
end Dw
/-! Dw: law -/
namespace Dw
open PySem PySem.Spec PyProof.Rows L2 LamX
abbrev sLaw : Stmt := topS 70
abbrev nLaw : List Str := ["_law_script", "_law_d", "_law_halls", "_law_work", "_law_crowd_here", "_law_calls_here", "_law_due", "_law_told_here", "_law_kept", "_law_bench", "_law_call"]
theorem scLaw : FnScope nLaw ["_law_script"] (defScope sLaw) := ⟨rfl, rfl, rfl, by decide +kernel, rfl, by decide +kernel, by decide +kernel⟩
theorem sql_same {K : PySem.W.Frag} {H H' : Hp} {a : Addr} {xs : List V} (h : SqL K H a xs) (s : Same H H') : SqL K H' a xs := by
  rcases h with (h | ⟨o, h⟩) | h
  · exact .inl (.inl (s _ _ h))
  · exact .inl (.inr ⟨o, s _ _ h⟩)
  · exact .inr h
section
variable {X : Cx} {H : Hp} {σ : L2.St} {e e1 e2 e3 : Expr} {pos p : Pos} {Q : VK} {d a : Addr} {ns : List Int} {h k : Nat} {v : V} {P : Addr} {w : List Nat} {cr : List Int}
theorem exv {x : Str} (n : Nat) (hs : σ[n]? = some (some v) := by rfl) (hni : X.N[n]? = some x := by rfl) (hv : Vis X.env.scope x := by first | exact Or.inl rfl | exact Or.inr (Or.inl rfl) | exact Or.inr (Or.inr rfl)) (hd : (x == ("__debug__" : Str)) = false := by decide) (hcd : (x == ("__classdict__" : Str)) = false := by decide) : EX X (.Name x pos) σ H v :=
  ev_pe (pe_var hni hv hd hcd) fun H1 s Q k => ⟨v, hs, k _ _ (Same.refl _) rfl⟩
theorem re_dice (K : KDice (mdOf X)) (h1 : EX X e σ H (.ref a)) (hs : SqL X.K H a (ns.map V.int)) (q : ∀ H' d, Same H H' → H d = none → DiceAt X.K H' d a ns → Q (.ref d) H') (hr : Room k X.A) (hk : 1 ≤ k := by decide) (hg : Gl X "_law_dice" := by rfl)
    (hst : starEach [e] X.env = (false, eval e X.env) :: starEach [] X.env := by rfl) (hpl : (backTo pos (starEach [] X.env)).any (·.1) = false := by rfl) : RE X (.Call (.Name "_law_dice" p) [e] [] pos) σ H Q := by
  obtain ⟨f, fd, g1, g2, g3, g4⟩ := K.ex
  refine RE.of (pe_call (CX := CX0) (E := E0) g1 (hr.mono hk) hg g2 g3 g4 .nil pass0 ra_pa (by decide) hst hpl) ((ea_x h1 ea_0 hst).1 H (Same.refl _) _ fun vs H1 s1 kk => ?_)
  obtain ⟨u, rfl, hu⟩ := pd1 kk
  rw [List.append_nil, show u = .ref a from hu]
  exact ⟨a, ns, rfl, sql_same hs s1, fun H' d s2 hd DA => q H' d (s1.trans s2) (s1.free hd) DA⟩
theorem re_word (K : KLWord (mdOf X)) (h1 : EX X e1 σ H (.ref d)) (h2 : EX X e2 σ H (.int (h : Nat))) (h3 : ED X e3 σ H (.int (6 : Nat))) (b1 : 1 ≤ h) (b6 : h ≤ 6) (DA : DiceAt X.K H d a ns) (q : ∀ H' w, Same (rm H d) H' → DiceAt X.K H' d a ns → Word h w → w.length ≤ 6 → Q (.str (txt w)) H') (hr : Room k X.A) (hk : 2 ≤ k := by decide) (hg : Gl X "_law_word" := by rfl)
    (hst : starEach [e1, e2, e3] X.env = (false, eval e1 X.env) :: starEach [e2, e3] X.env := by rfl) (hst2 : starEach [e2, e3] X.env = (false, eval e2 X.env) :: starEach [e3] X.env := by rfl) (hst3 : starEach [e3] X.env = (false, eval e3 X.env) :: starEach [] X.env := by rfl) (hpl : (backTo pos (starEach [e2, e3] X.env)).any (·.1) = false := by rfl) : RE X (.Call (.Name "_law_word" p) [e1, e2, e3] [] pos) σ H Q := by
  obtain ⟨f, fd, g1, g2, g3, g4⟩ := K.ex
  refine RE.of (pe_call (CX := CX0) (E := E0) g1 (hr.mono hk) hg g2 g3 g4 .nil pass0 ra_pa (by decide) hst hpl) ((ea_x h1 (ea_x h2 (ea_d h3 ea_0 hst3) hst2) hst).1 H (Same.refl _) _ fun vs H1 s1 kk => ?_)
  obtain ⟨v1, v2, v3, rfl, r1, r2, r3⟩ := pd3 kk
  rw [List.append_nil, show v1 = .ref d from r1, show v2 = .int h from r2, Im.ofInt r3]
  exact ⟨d, a, ns, h, 6, rfl, b1, b6, by decide, DA.mono s1, fun H' w s2 D2 W hw => q H' w ((same_rm s1).trans s2) D2 W hw⟩
theorem re_crowd (K : KLCrowd (mdOf X)) (h1 : EX X e1 σ H (.ref d)) (h2 : EX X e2 σ H (.int (h : Nat))) (h3 : ED X e3 σ H (.int 9)) (b1 : 1 ≤ h) (b6 : h ≤ 6) (DA : DiceAt X.K H d a ns) (q : ∀ H' (cr : List Int) v, Same (rm H d) H' → DiceAt X.K H' d a ns → cr.length = h → (∀ x ∈ cr, 0 ≤ x ∧ x ≤ 8) → Im H' (rowD cr) v → Q v H') (hr : Room k X.A) (hk : 2 ≤ k := by decide) (hg : Gl X "_law_crowd" := by rfl)
    (hst : starEach [e1, e2, e3] X.env = (false, eval e1 X.env) :: starEach [e2, e3] X.env := by rfl) (hst2 : starEach [e2, e3] X.env = (false, eval e2 X.env) :: starEach [e3] X.env := by rfl) (hst3 : starEach [e3] X.env = (false, eval e3 X.env) :: starEach [] X.env := by rfl) (hpl : (backTo pos (starEach [e2, e3] X.env)).any (·.1) = false := by rfl) : RE X (.Call (.Name "_law_crowd" p) [e1, e2, e3] [] pos) σ H Q := by
  obtain ⟨f, fd, g1, g2, g3, g4⟩ := K.ex
  refine RE.of (pe_call (CX := CX0) (E := E0) g1 (hr.mono hk) hg g2 g3 g4 .nil pass0 ra_pa (by decide) hst hpl) ((ea_x h1 (ea_x h2 (ea_d h3 ea_0 hst3) hst2) hst).1 H (Same.refl _) _ fun vs H1 s1 kk => ?_)
  obtain ⟨v1, v2, v3, rfl, r1, r2, r3⟩ := pd3 kk
  rw [List.append_nil, show v1 = .ref d from r1, show v2 = .int h from r2, Im.ofInt r3]
  exact ⟨d, a, ns, h, rfl, b1, b6, DA.mono s1, fun H' cr v s2 D2 hl hc hi => q H' cr v ((same_rm s1).trans s2) D2 hl hc hi⟩
theorem re_calls (K : KCalls (mdOf X) P) (h1 : EX X e1 σ H (.int (h : Nat))) (h2 : EX X e2 σ H (.str (txt w))) (h3 : EX X e3 σ H v) (b1 : 1 ≤ h) (b6 : h ≤ 6) (W : Word h w) (hw : w.length ≤ 6) (hi : Im H (rowD cr) v) (hT : TabS H P qLam)
    (q : ∀ (p : Addr) (fs : List V) (cells : List (Str × Addr)) (one : V) (H' : Hp), ExtN H H' → H' p = some (.lst fs) → Paired (LamV H' qLam cells) lamEs fs → CelT cells nCells [.int (h : Nat), .str (txt w), v, one] H' → Im H' (cardD (lawCard h w)) one → Q (.ref p) H') (hr : Room k X.A) (hk : 3 ≤ k := by decide) (hg : Gl X "_law_calls" := by rfl)
    (hst : starEach [e1, e2, e3] X.env = (false, eval e1 X.env) :: starEach [e2, e3] X.env := by rfl) (hst2 : starEach [e2, e3] X.env = (false, eval e2 X.env) :: starEach [e3] X.env := by rfl) (hst3 : starEach [e3] X.env = (false, eval e3 X.env) :: starEach [] X.env := by rfl) (hpl : (backTo pos (starEach [e2, e3] X.env)).any (·.1) = false := by rfl) : RE X (.Call (.Name "_law_calls" p) [e1, e2, e3] [] pos) σ H Q := by
  obtain ⟨f, fd, g1, g2, g3, g4⟩ := K.ex
  refine RE.of (pe_call (CX := CX0) (E := E0) g1 (hr.mono hk) hg g2 g3 g4 .nil pass0 ra_pa (by decide) hst hpl) ((ea_x h1 (ea_x h2 (ea_x h3 ea_0 hst3) hst2) hst).1 H (Same.refl _) _ fun vs H1 s1 kk => ?_)
  obtain ⟨v1, v2, v3, rfl, r1, r2, r3⟩ := pd3 kk
  rw [List.append_nil, show v1 = .int h from r1, show v2 = .str (txt w) from r2, show v3 = v from r3]
  exact ⟨h, w, cr, v, rfl, b1, b6, W, hw, hi.mono (Tk.of s1), hT.ext s1, fun p fs cells one H' e a b c d => q p fs cells one H' ((ExtN.same s1).trans e) a b c d⟩
end
end Dw
/-! Dw: a Bench as law uses it -/
namespace Dw
open PySem PySem.Spec PyProof.Rows L2 LamX
section
variable {X : Cx} {H : Hp} {σ : L2.St} {e e1 e2 o : Expr} {pos apos cpos p : Pos} {C : Addr} {k : Nat} {Q : VK} {pl : Sem Bool} {cr ns : List Int} {w : List Nat} {b dx rd pd T c : Addr} {u : V} {deed d : PyData} {rest : List Stmt} {D : Ends} {R : VR}
/-- Bench(crowd) -/
theorem re_bench (BI : ∃ f fd, FnOk X.prog X.w X.K X.mg X.base CX0 3 f fd ["self", "crowd"] (spBInit C) ∧ Binds X.K fd ["self", "crowd"] [] ∧ Mk X.K C f) (hm : X.mg "Bench" = some (.ref C)) (h1 : ED X e1 σ H (rowD cr)) (l1 : 1 ≤ cr.length) (l6 : cr.length ≤ 6) (C0 : Crowd cr)
    (q : ∀ H' b dx rd pd, Same H H' → H' b = some (.ins C dx (bFs rd pd)) → H' rd = some (.lst ((cr ++ [0]).map V.int)) → H' pd = some (.lst []) → rd ≠ pd → Q (.ref b) H') (hr : Room k X.A) (hk : 4 ≤ k := by decide) (hg : Gl X "Bench" := by rfl)
    (hst : starEach [e1] X.env = (false, eval e1 X.env) :: starEach [] X.env := by rfl) (hpl : (backTo pos (starEach [] X.env)).any (·.1) = false := by rfl) : RE X (.Call (.Name "Bench" p) [e1] [] pos) σ H Q := by
  obtain ⟨f, fd, g1, g2, g3⟩ := BI
  refine RE.of (pe_make (CX := CX0) (E := E0) g3 g1 (hr.mono hk) hg hm g2 .nil pass0 ra_pa (by decide) hst hpl) ((ea_d h1 ea_0 hst).1 H (Same.refl _) _ fun vs H1 s1 kk => ?_)
  obtain ⟨v, rfl, hv⟩ := pd1 kk
  rw [List.append_nil]
  intro x dx hx hdx hne
  have sU : Same H1 (L2.upd (L2.upd H1 dx (.own x)) x (.ins C dx [])) := fun a o ea => by
    rw [upd_ne (ne_of_none ea hx), upd_ne (ne_of_none ea hdx)]
    exact ea
  refine ⟨x, dx, cr, v, rfl, hv.mono (Tk.of sU), upd_same, l1, l6, C0, fun H' rd pd s e er ep hrp => ⟨rfl, ?_⟩⟩
  have sH : Same H1 H' := fun a o ea => s a o (by
    rw [rm_ne (ne_of_none ea hx)]
    exact sU _ _ ea)
  exact q H' x dx rd pd (s1.trans sH) e er ep hrp
/-- bench.do(work) -/
theorem re_do (K : KDo (mdOf X) C) (hc : Cls X.K C) (ho : EX X o σ H (.ref b)) (h1 : ED X e1 σ H (.str (txt w))) (eb : H b = some (.ins C dx (bFs rd pd))) (er : H rd = some (.lst ((cr ++ [0]).map V.int))) (ep : H pd = some (.lst [])) (hrp : rd ≠ pd) (l1 : 1 ≤ cr.length) (l6 : cr.length ≤ 6) (W : Word cr.length w) (hw : w.length ≤ 8)
    (q : ∀ H' T c u v, Same (rm (rm H pd) rd) H' → H' rd = some (.lst ((w.foldl stepL (cr ++ [0])).map V.int)) → H' pd = some (.lst [.ref T]) → H' T = some (.tup [.ref c, u]) → Im H' (doD w) u → Q v H') (hr : Room k X.A) (hk : 3 ≤ k := by decide)
    (hst : starEach [e1] X.env = (false, eval e1 X.env) :: starEach [] X.env := by rfl) (hpl : (backTo pos (starEach [] X.env)).any (·.1) = false := by rfl)
    (htr : eval (.Call (.Attribute o "do" apos) [e1] [] pos) X.env = (do
      let ov ← eval o X.env
      standAt apos.atName
      let (f, first) ← holding [ov] (getMethod ov "do" pl)
      callWith pos f first (backTo pos (starEach [e1] X.env)) (backToKw pos (keywordEach [] X.env))) := by rfl) : RE X (.Call (.Attribute o "do" apos) [e1] [] pos) σ H Q := by
  obtain ⟨f, fd, g1, g2, g3⟩ := K.ex
  refine RE.of (pe_meth (CX := CX0) (E := E0) re_pe hc g3 g1 (hr.mono hk) g2 .nil pass0 ra_pa hst hpl htr) (ho H (Same.refl _) _ fun x H1 s1 hx => ⟨b, dx, _, hx, s1 _ _ eb, rfl, (ea_d h1 ea_0 hst).1 H1 s1 _ fun vs H2 s2 kk => ?_⟩)
  obtain ⟨v, rfl, hv⟩ := pd1 kk
  rw [List.append_nil, show x = .ref b from hx, show v = .str (txt w) from Im.ofStr hv]
  have s12 := s1.trans s2
  exact ⟨b, dx, rd, pd, cr, w, rfl, s12 _ _ eb, s12 _ _ er, s12 _ _ ep, hrp, l1, l6, W, hw, fun H' T c u v z => q H' T c u v ((same_rm (same_rm s12)).trans z)⟩
/-- bench.steps() -/
theorem re_steps (K : KSteps (mdOf X) C) (hc : Cls X.K C) (ho : EX X o σ H (.ref b)) (eb : H b = some (.ins C dx (bFs rd pd))) (ep : H pd = some (.lst [.ref T])) (eT : H T = some (.tup [.ref c, u])) (iu : Im H deed u)
    (q : ∀ H' l, Same H H' → H l = none → H' l = some (.lst [u]) → Q (.ref l) H') (hr : Room k X.A) (hk : 1 ≤ k := by decide)
    (htr : eval (.Call (.Attribute o "steps" apos) [] [] pos) X.env = (do
      let ov ← eval o X.env
      standAt apos.atName
      let (f, first) ← holding [ov] (getMethod ov "steps" pl)
      callWith pos f first (backTo pos (starEach [] X.env)) (backToKw pos (keywordEach [] X.env))) := by rfl) : RE X (.Call (.Attribute o "steps" apos) [] [] pos) σ H Q := by
  obtain ⟨f, fd, g1, g2, g3⟩ := K.ex
  refine RE.of (pe_meth0 (CX := CX0) (E := E0) re_pe hc g3 g1 (hr.mono hk) g2 .nil pass0 htr) (ho H (Same.refl _) _ fun x H1 s1 hx => ⟨b, dx, _, hx, s1 _ _ eb, rfl, ?_⟩)
  rw [show x = .ref b from hx]
  exact ⟨b, dx, rd, pd, T, c, u, deed, rfl, s1 _ _ eb, s1 _ _ ep, s1 _ _ eT, iu.mono (Tk.of s1), fun H' l s n g => q H' l (s1.trans s) (s1.free n) g⟩
/-- bench.crowd() -/
theorem re_bcrowd (K : KBCrowd (mdOf X) C) (hc : Cls X.K C) (ho : EX X o σ H (.ref b)) (eb : H b = some (.ins C dx (bFs rd pd))) (er : H rd = some (.lst (ns.map V.int)))
    (q : ∀ H' v, Same H H' → Im H' (rowD ns.dropLast) v → Q v H') (hr : Room k X.A) (hk : 1 ≤ k := by decide)
    (htr : eval (.Call (.Attribute o "crowd" apos) [] [] pos) X.env = (do
      let ov ← eval o X.env
      standAt apos.atName
      let (f, first) ← holding [ov] (getMethod ov "crowd" pl)
      callWith pos f first (backTo pos (starEach [] X.env)) (backToKw pos (keywordEach [] X.env))) := by rfl) : RE X (.Call (.Attribute o "crowd" apos) [] [] pos) σ H Q := by
  obtain ⟨f, fd, g1, g2, g3⟩ := K.ex
  refine RE.of (pe_meth0 (CX := CX0) (E := E0) re_pe hc g3 g1 (hr.mono hk) g2 .nil pass0 htr) (ho H (Same.refl _) _ fun x H1 s1 hx => ⟨b, dx, _, hx, s1 _ _ eb, rfl, ?_⟩)
  rw [show x = .ref b from hx]
  exact ⟨b, dx, rd, pd, ns, rfl, s1 _ _ eb, s1 _ _ er, fun H' v s i => q H' v (s1.trans s) i⟩
/-- (an effectful list).append(e) -/
theorem rss_appR (ho : RE X o σ H fun x H1 => ∃ l vs, x = .ref l ∧ H1 l = some (.lst vs) ∧ vs.length < sizeLine ∧ EV X e σ H1 R ∧ ∀ v H2, Same H1 H2 → R H1 H2 v → RSs X rest D σ (L2.upd H2 l (.lst (vs ++ [v]))))
    (hsw : swapsWith (.Call (.Attribute o "append" apos) [e] [] cpos) none pos.line X.env = pure false := by rfl)
    (hbase : attributeBase o "append" X.env (eval o X.env) = eval o X.env := by rfl)
    (hfew : ((backTo cpos (starEach [e] X.env)).all (fun x => !x.1) && (backToKw cpos (keywordEach [] X.env)).all (fun x => x.1.isSome) && decide ([e].length + ([] : List Keyword).length + (if ([] : List Keyword).isEmpty then 0 else 1) < 30)) = true := by rfl)
    (hline : (apos.endLine == cpos.line) = true := by rfl) (hst : starEach [e] X.env = (false, eval e X.env) :: starEach [] X.env := by rfl) (hplain : (backTo cpos (starEach [] X.env)).any (·.1) = false := by rfl) :
    RSs X (.Expr (.Call (.Attribute o "append" apos) [e] [] cpos) pos :: rest) D σ H :=
  rss_cons (RS.of (ps_expr (pe_bm PySem.F.plainAttrs_list PySem.F.slot_list_append PySem.F.type_list_append mt_append re_pe (pa_cons re_pe pa_nil hst) hbase hfew hline hst hplain) hsw) (ho.imp fun x H1 ⟨l, vs, hx, hl, hz, he, q⟩ => by
    subst hx
    exact ⟨Or.inl ⟨rfl, _, SqL.of hl⟩, he H1 (Same.refl _) _ fun v H2 s2 hv => ⟨l, vs, v, rfl, rfl, s2 _ _ hl, hz, q v H2 s2 hv⟩⟩))
/-- one item of a list of values -/
theorem re_ixV {ds : Addr} {vs : List V} {v : V} {i : Int} (k : Nat) (ha : EX X e1 σ H (.ref ds)) (hb : ED X e2 σ H (.int i)) (hl : H ds = some (.lst vs)) (hi : i = (k : Int)) (hv : vs[k]? = some v) (q : ∀ H', Same H H' → Q v H') (hs : PlainIx e2 := by exact fun _ _ => rfl) : RE X (.Subscript e1 e2 pos) σ H Q :=
  RE.of (pe_ix ix_list re_pe re_pe hs) (ha H (Same.refl _) _ fun x H1 s1 hx => hb H1 s1 _ fun y H2 s2 hy => ⟨ds, vs, i, v, hx, Im.ofInt hy, SqL.of ((s1.trans s2) _ _ hl), atI_of hi hv, q H2 (s1.trans s2)⟩)
end
end Dw
/-! Dw: law itself -/
namespace Dw
open PySem PySem.Spec PyProof.Rows L2 LamX
def spLaw (m : Md) (P : Addr) : Sp := fun vs H Q _ => ∃ (a : Addr) (ns : List Int), vs = [.ref a] ∧ SqL m.K H a (ns.map V.int) ∧ H P = some (.tbl #[]) ∧ ∀ H', Q (.bl true) H'
structure KLw (m : Md) (CU P C : Addr) : Prop where
  all : KAll m CU
  bch : Bch m C
  binit : ∃ f fd, FnOk m.P m.w m.K m.mg m.base CX0 3 f fd ["self", "crowd"] (spBInit C) ∧ Binds m.K fd ["self", "crowd"] [] ∧ Mk m.K C f
  bdo : KDo m C
  bcrowd : KBCrowd m C
  bsteps : KSteps m C
  dice : KDice m
  next : KNext m
  word : KLWord m
  crowd : KLCrowd m
  calls : KCalls m P
  told : KTold m CU
theorem diceAt_ne {K : PySem.W.Frag} {H : Hp} {d a P : Addr} {ns : List Int} {ps : Array Value} (D : DiceAt K H d a ns) (h : H P = some (.tbl ps)) : P ≠ d := fun z => by
  obtain ⟨_, _, _, e⟩ := D.at_
  rw [z, e] at h
  cases h
theorem kn_law {m : Md} {CU P C f : Addr} {fd : FuncData} (T : Tx m) (K : KLw m CU P C) (F : Fun m.K "law" "law" sLaw f fd) : FnOk m.P m.w m.K m.mg m.base CX0 17 f fd ["_law_script"] (spLaw m P) := by
  refine F.ok scLaw (fun vs H Q E ⟨_, _, e, _⟩ => by rw [e]; rfl) fun cdv A outer s H vs Q E hr hsp => ?_
  obtain ⟨a, ns, rfl, hs, hP, q⟩ := hsp
  obtain ⟨rt, ert⟩ : ∃ rt : Rt, rt = ⟨cdv, A, outer, s, H, E⟩ := ⟨_, rfl⟩
  have hr : Room 16 (cxD m nLaw "law" sLaw f ⟨cdv, A, outer, s, H, E⟩).A := hr
  have nd : (cxD m nLaw "law" sLaw f ⟨cdv, A, outer, s, H, E⟩).N.Nodup := scLaw.nd
  refine ⟨RSs (cxD m nLaw "law" sLaw f ⟨cdv, A, outer, s, H, E⟩) (defBody sLaw), rss_pss, ?_⟩
  rw [← ert] at hr nd ⊢
  refine rss_setE (X := cxD m nLaw "law" sLaw f rt) 1 (re_dice (X := cxD m nLaw "law" sLaw f rt) K.dice (exv 0) hs (fun H1 d s1 hd DA => ?_) hr)
  have hP1 := s1 _ _ hP
  have dP := diceAt_ne DA hP1
  refine rss_setE (X := cxD m nLaw "law" sLaw f rt) 2 (RE.of (pe_op op_add re_pe re_pe) ((ed_int (X := cxD m nLaw "law" sLaw f rt)) _ (Same.refl _) _ fun v1 H2 s2 r1 => re_next (X := cxD m nLaw "law" sLaw f rt) (many := 6) K.next (exv 1) ed_int (by decide) (by decide) (DA.mono s2) (fun H3 x s3 DA3 hx => ?_) hr))
  refine ⟨1, (x : Int), Im.ofInt r1, rfl, ?_⟩
  dsimp only
  rw [show (1 : Int) + (x : Int) = ((x + 1 : Nat) : Int) by omega]
  have hP3 : H3 P = some (.tbl #[]) := s3 _ _ (by rw [rm_ne dP]; exact s2 _ _ hP1)
  generalize hh : x + 1 = h
  have h1 : 1 ≤ h := by omega
  have h6 : h ≤ 6 := by omega
  refine rss_cons (RS.of (ps_par (X := cxD m nLaw "law" sLaw f rt) (i := 3) (j := 4) rfl nd rfl rfl (by decide) rfl rfl (pa_cons re_pe (pa_cons re_pe pa_nil (by rfl)) (by rfl)) (by rfl) (by rfl)) (re_word (X := cxD m nLaw "law" sLaw f rt) K.word (exv 1) (exv 2) ed_int h1 h6 DA3 (fun H4 w s4 DA4 W hw => re_crowd (X := cxD m nLaw "law" sLaw f rt) K.crowd (exv 1) (exv 2) ed_int h1 h6 DA4 (fun H5 cr u s5 DA5 hc CR hi => ⟨_, _, rfl, ?_⟩) hr) hr))
  have hP5 : H5 P = some (.tbl #[]) := s5 _ _ (by rw [rm_ne dP]; exact s4 _ _ (by rw [rm_ne dP]; exact hP3))
  have D : Drw h w cr := ⟨h1, h6, W, hw, hc, CR⟩
  refine rss_setE (X := cxD m nLaw "law" sLaw f rt) 5 (re_calls (X := cxD m nLaw "law" sLaw f rt) K.calls (exv 2) (exv 3) (exv 4) h1 h6 W hw hi (TabS.nil hP5) (fun p fs cells one H6 eN e6 hL hC hone => ?_) hr)
  have hi6 := hi.mono (Tk.extN eN)
  have clo := clos_of K.all D hL hC hi6 hone
  have len : (toldM h w cr).length = fs.length := Paired.length clo
  have len15 : (toldM h w cr).length = 15 := rfl
  have hkind : ∀ t ∈ toldM h w cr, (∃ d, t = .dat d) ∨ ∃ ds, t = .lst ds := fun t ht => by
    rcases (told_ok D t ht).kind with ⟨d, e, _⟩ | ⟨ds, e, _⟩
    · exact .inl ⟨d, e⟩
    · exact .inr ⟨ds, e⟩
  have tell : ∀ {i : Nat} {t : Sl} {v : V}, (toldM h w cr)[i]? = some t → fs[i]? = some v → CloT m CU H6 t v := fun {i t v} e1 e2 => by
    obtain ⟨v', e3, c⟩ := Paired.getP clo e1
    rw [e2] at e3
    cases e3
    exact c
  refine rss_setLc0 (X := cxD m nLaw "law" sLaw f rt) (own := [("_law_call", 10)]) (n := 6) (lc_vals (X := cxD m nLaw "law" sLaw f rt) (ts := toldM h w cr) 10 (exv 5) e6 len (by omega) (blkOk_by (N := nLaw) (sc := defScope sLaw) (by decide +kernel)) (fun i t v H7 Q' et ev s7 q' s0 H0 C cl fp => ?_) hkind (fun D7 vs H7 s7 hD7 eD7 hvs => ?_))
  · exact re_told (X := Cx.blk _ _ _ _ _ _) K.told (exv 10) ((tell et ev).mono s7) (hkind t (List.mem_of_getElem? et)) q' hr
  have len7 := Paired.length hvs
  have at7 : ∀ {i : Nat} {t : Sl} {v : V}, (toldM h w cr)[i]? = some t → vs[i]? = some v → SlOk H6 H7 (some v) t ∧ v ≠ .ref D7 := fun {i t v} e1 e2 => by
    obtain ⟨v', e3, c⟩ := Paired.getP hvs e1
    rw [e2] at e3
    cases e3
    exact c
  refine rss_setLc0 (X := cxD m nLaw "law" sLaw f rt) (own := [("_law_told_here", 7)]) (n := 8) (lc_vals (X := cxD m nLaw "law" sLaw f rt) (ts := toldM h w cr) 7 (exv 6) eD7 len7 (by omega) (blkOk_by (N := nLaw) (sc := defScope sLaw) (by decide +kernel)) (fun i t v H8 Q' et ev s8 q' s0 H0 C cl fp => ?_) hkind (fun D8 ks H8 s8 hD8 eD8 hks => ?_))
  · have hv := (at7 et ev).1.mono s8
    have ht := hkind t (List.mem_of_getElem? et)
    refine re_copy (X := Cx.blk _ _ _ _ _ _) (v := v) ?_ ?_ ?_ ?_ hv ht q' ?_ ?_
    · exact et_isL T.isi T.list (exv 7) hv ht
    · exact T.list
    · exact exv 7
    · exact exv 7
    · rfl
    · rfl
  refine rss_spoil (X := cxD m nLaw "law" sLaw f rt) (B := H6) (ts := toldM h w cr) 7 T.isi T.list (exv 6) (s8 _ _ eD7) (Paired.mapI hvs fun t v _ z => ⟨z.1.mono s8, z.2⟩) (fun t ht => ?_) (by omega) (fun o H9 s9 => ?_) (by show 7 < 11; decide)
  · rcases (told_ok D t ht).kind with ⟨d, e, _⟩ | ⟨ds, e, hz⟩
    · exact .inl ⟨d, e⟩
    · exact .inr ⟨ds, e, hz⟩
  have noA : ∀ b, IsAns (toldM h w cr) vs b → H6 b = none ∧ ∃ us, H7 b = some (.lst us) := fun b ⟨i, ds, e1, e2⟩ => by
    obtain ⟨l, us, f1, f2, f3, _⟩ := (at7 e1 e2).1
    cases f1
    exact ⟨f2, us, f3⟩
  have s69 : Same H6 H9 := fun b o' e => s9 b o' (by
    rw [noAns_out (fun z => by rw [(noA b z).1] at e; cases e)]
    exact s8 _ _ (s7 _ _ e))
  have eK : H9 D8 = some (.lst ks) := s9 _ _ (by
    rw [noAns_out (fun z => by obtain ⟨_, us, e⟩ := noA _ z; rw [hD8] at e; cases e)]
    exact eD8)
  have tk89 : Tk H8 H9 := fun b xs e => s9 _ _ (by
    rw [noAns_out (fun z => by obtain ⟨_, us, e2⟩ := noA _ z; have := s8 _ _ e2; rw [e] at this; cases this)]
    exact e)
  have kA : Paired (fun t v => SlOk H7 H9 (some v) t) (toldM h w cr) ks := Paired.mapI hks fun t v ht z => by
    rcases hkind t ht with ⟨d, rfl⟩ | ⟨ds, rfl⟩
    · obtain ⟨v', e1, hd⟩ := z.1
      exact ⟨v', e1, hd.mono tk89⟩
    · obtain ⟨l, us, e1, e2, e3, e4⟩ := z.1
      refine ⟨l, us, e1, e2, s9 _ _ ?_, e4.mono tk89⟩
      rw [noAns_out (fun z => by obtain ⟨_, us, e⟩ := noA _ z; rw [e2] at e; cases e)]
      exact e3
  have pl : Plain 4 (.list ((toldM h w cr).map slD)) := plain_list fun d hd => by
    obtain ⟨t, ht, rfl⟩ := List.mem_map.mp hd
    exact (told_ok D t ht).plain
  have hu := hr.units
  refine rss_cons (RS.of (ps_if rt_pt rss_pss rss_pss) (RT.of (pt_cmpR (op_neD (X := cxD m nLaw "law" sLaw f rt) hu) re_pe re_pe (nomark _)) (re_lc (X := cxD m nLaw "law" sLaw f rt) (own := [("_law_call", 10)]) (lc_vals (X := cxD m nLaw "law" sLaw f rt) (ts := toldM h w cr) 10 (exv 5) (s69 _ _ e6) len (by omega) (blkOk_by (N := nLaw) (sc := defScope sLaw) (by decide +kernel)) (fun i t v H10 Q' et ev s10 q' s0 H0 C cl fp => ?_) hkind (fun D9 vs2 H10 s10 hD9 eD9 hvs2 => ?_)) nd rfl)))
  · exact re_told (X := Cx.blk _ _ _ _ _ _) K.told (exv 10) ((tell et ev).mono (s69.trans s10)) (hkind t (List.mem_of_getElem? et)) q' hr
  refine (exv (X := cxD m nLaw "law" sLaw f rt) 8 : EX _ _ _ _ _) _ (Same.refl _) _ fun kv H11 s11 ekv => ⟨.list ((toldM h w cr).map slD), .list ((toldM h w cr).map slD), ?_, ?_, pl.shaped (by decide), pl.shaped (by decide), _, rfl, ?_⟩
  · exact .lst (SqL.of (s11 _ _ eD9)) (ans_dps (B := H9) (Paired.mapI hvs2 fun t v _ z => z.1.mono s11) hkind)
  · rw [show kv = .ref D8 from ekv]
    exact .lst (SqL.of (s11 _ _ (s10 _ _ eK))) (ans_dps (B := H7) (Paired.mapI kA fun t v _ z => z.mono (s10.trans s11)) hkind)
  dsimp only
  rw [PySem.SeqAt.eqv_refl _ pl.lay]
  refine iteF (rss_nil ?_)
  have hi11 : Im H11 (rowD cr) u := (hi6.mono (Tk.of (s69.trans s10))).mono (Tk.of s11)
  have eK11 : H11 D8 = some (.lst ks) := s11 _ _ (s10 _ _ eK)
  obtain ⟨k0, f0, g0⟩ := Paired.getP kA (i := 0) (x := .dat (rowD (runM w cr))) rfl
  have i0 : Im H9 (rowD (runM w cr)) k0 := by
    obtain ⟨v', e1, hd⟩ := g0
    cases e1
    exact hd
  have i011 := i0.mono (Tk.of (s10.trans s11))
  have lk : ks.length = 15 := by rw [← Paired.length kA, len15]
  have lc : cr.length ≤ 6 := by omega
  refine rss_setE (X := cxD m nLaw "law" sLaw f rt) 9 (re_bench (X := cxD m nLaw "law" sLaw f rt) K.binit K.bch.mg ((exv 4).ed hi11) (by omega) lc (rowD_crowd D) (fun H12 b dx rd pd s12 eb er ep hrp => ?_) hr)
  have eK12 := s12 _ _ eK11
  refine rss_exprE (X := cxD m nLaw "law" sLaw f rt) (re_do (X := cxD m nLaw "law" sLaw f rt) K.bdo K.bch.cls (exv 9) ((exv 3).ed (im_str _)) eb er ep hrp (by omega) lc (hc ▸ W) (by omega) (fun H13 TT c u13 v13 z13 er13 ep13 eT iu => ?_) hr)
  have off : ∀ {l : Addr} {o : HO}, H12 l = some o → (∀ xs, o = .lst xs → xs.length ≠ 0 ∧ xs.length ≠ cr.length + 1) → H13 l = some o := fun {l o} e hn => z13 _ _ (by
    rw [rm_ne (fun z => by rw [z, er] at e; cases e; exact (hn _ rfl).2 (by simp)), rm_ne (fun z => by rw [z, ep] at e; cases e; exact (hn _ rfl).1 rfl)]
    exact e)
  have eb13 := off eb (fun xs z => by cases z)
  have eK13 := off eK12 (fun xs z => by cases z; omega)
  have tk13 : Tk H12 H13 := fun l xs e => off e (fun xs z => by cases z)
  have i013 := (i011.mono (Tk.of s12)).mono tk13
  refine rss_appR (X := cxD m nLaw "law" sLaw f rt) (e := .Constant _ _ _) (R := rD (.str "spoilt")) (re_steps (X := cxD m nLaw "law" sLaw f rt) K.bsteps K.bch.cls (exv 9) eb13 ep13 eT iu (fun H14 l s14 n14 e14 => ⟨l, _, rfl, e14, smallL _ (by show 1 ≤ 100000; omega), ed_str, fun v15 H15 s15 hv15 => ?_⟩) hr)
  have sU := same_updN (o := .lst ([u13] ++ [v15])) (s14.trans s15) n14
  generalize L2.upd H15 l (.lst ([u13] ++ [v15])) = H16 at sU ⊢
  have pd1 : Plain 2 (.list [doD w]) := plain_list fun d hd => by
    rw [List.mem_singleton] at hd
    rw [hd]
    exact plain_tup fun d hd => by
      rcases List.mem_cons.mp hd with rfl | hd
      · exact plain_str (by decide +kernel)
      · rw [List.mem_singleton] at hd
        rw [hd]
        exact plain_txt (W.up h6)
  refine rss_cons (RS.of (ps_ret re_pe) (RE.of (pe_and re_pe (pe_one re_pe)) (RE.of (pe_cmpR (op_eqD (X := cxD m nLaw "law" sLaw f rt) hu) re_pe re_pe (nomark _)) (re_steps (X := cxD m nLaw "law" sLaw f rt) K.bsteps K.bch.cls (exv 9) (sU _ _ eb13) (sU _ _ ep13) (sU _ _ eT) (iu.mono (Tk.of sU)) (fun H17 l2 s17 n17 e17 => ?_) hr))))
  refine (en_lst (ds := [doD w]) (ea_d (ed_tup (ds := [.str "do", .str (txt w)]) (ea_d ed_str (ea_d ((exv 3).ed (im_str _)) ea_0))) ea_0) : EN (cxD m nLaw "law" sLaw f rt) _ _ _ _) H17 (Same.refl _) _ fun y18 H18 s18 ⟨l3, vs3, e18, n18, g18, i18⟩ => ⟨.list [doD w], .list [doD w], ?_, ?_, pd1.shaped (by decide), pd1.shaped (by decide), _, rfl, ?_⟩
  · exact .lst (SqL.of (s18 _ _ e17)) (.cons (Im.dp _ _ (iu.mono (Tk.of ((sU.trans s17).trans s18)))) .nil)
  · rw [e18]
    exact .lst (SqL.of g18) (ImAll.dp _ _ i18)
  dsimp only
  rw [PySem.SeqAt.eqv_refl _ pd1.lay]
  refine iteT (RE.of (pe_cmpR (op_eqD (X := cxD m nLaw "law" sLaw f rt) hu) re_pe re_pe (nomark _)) (re_bcrowd (X := cxD m nLaw "law" sLaw f rt) K.bcrowd K.bch.cls (exv 9) ((sU.trans s17).trans s18 _ _ eb13) ((sU.trans s17).trans s18 _ _ er13) (fun H19 v19 s19 i19 => ?_) hr))
  have s1319 := ((sU.trans s17).trans s18).trans s19
  refine re_ixV (X := cxD m nLaw "law" sLaw f rt) 0 (exv 8) ed_int (s1319 _ _ eK13) rfl f0 (fun H20 s20 => ⟨rowD (runM w cr), rowD (runM w cr), ?_, ?_, (plain_row _).shaped (by decide), (plain_row _).shaped (by decide), ?_⟩)
  · exact Im.dp _ _ (i19.mono (Tk.of s20))
  · exact Im.dp _ _ (i013.mono (Tk.of (s1319.trans s20)))
  rw [PySem.SeqAt.eqv_refl _ (plain_row _).lay]
  exact q _
end Dw
section
open PySem PySem.W PyProof.Rows
set_option maxHeartbeats 0
open_top dwHead for PySem.Challenge.rw_doorwords_k34_whole_asked_again
end
/-! Dw: all promises from the facts -/
namespace Dw
open PySem PySem.Spec PyProof.Rows L2 LamX
/-- every plain def -/
structure Defs (m : Md) : Prop where
  d_how_many : Df m "how_many" sHowMany ["halls", "work"]
  d_number_of : Df m "number_of" sNumberOf ["halls", "work"]
  d_need_count : Df m "need_count" sNeedCount ["number", "low", "high"]
  d_need_halls : Df m "need_halls" sNeedHalls ["halls"]
  d_need_work : Df m "need_work" sNeedWork ["halls", "work"]
  d_need_crowd : Df m "need_crowd" sNeedCrowd ["halls", "crowd"]
  d_need_any : Df m "need_any_crowd" sNeedAny ["crowd"]
  d_doors_of : Df m "doors_of" sDoorsOf ["work"]
  d_written : Df m "written" sWritten ["one"]
  d_short : Df m "need_short" sShort ["halls", "work"]
  d_beside : Df m "beside" sBeside ["halls", "work", "goal"]
  d_led : Df m "led" sLed ["halls", "one", "other"]
  d_step : Df m "step" sStep ["rows", "door"]
  d_run : Df m "run" sRun ["halls", "work", "crowd"]
  d_gone : Df m "gone" sGone ["halls", "work", "crowd"]
  d_need_card : Df m "need_card" sNeedCard ["one"]
  d_nothing : Df m "nothing" sNothing ["halls"]
  d_opened : Df m "opened" sOpened ["one", "door"]
  d_card_of : Df m "card_of" sCardOf ["halls", "work"]
  d_card : Df m "card" sCard ["halls", "work"]
  d_through : Df m "through" sThrough ["one", "crowd"]
  d_behind : Df m "behind" sBehind ["crowd", "went"]
  d_made : Df m "made" sMade ["one", "crowd"]
  d_both : Df m "both" sBoth ["one", "other"]
  d_joined : Df m "joined" sJoined ["one", "other"]
  d_power : Df m "power" sPower ["one", "times"]
  d_enough : Df m "enough" sEnough ["halls", "work"]
  d_between : Df m "between" sBetween ["crowd", "goal"]
  d_parts : Df m "first_parting" sParts ["one", "other"]
  d_alike : Df m "alike" sAlike ["halls", "one", "other"]
  d_parting : Df m "parting" sParting ["one", "other"]
  d_still : Df m "is_still" sStill ["one", "crowd", "times"]
  d_rest : Df m "at_rest" sRest ["halls", "work", "crowd"]
  d_lcut : Df m "_law_cut" sLCut ["_law_work", "_law_first", "_law_last"]
  d_lcard : Df m "_law_card" sLCard ["_law_halls", "_law_work"]
  d_dice : Df m "_law_dice" sDice ["_law_script"]
  d_next : Df m "_law_next" sNext ["_law_dice_here", "_law_many"]
  d_lword : Df m "_law_word" sLWord ["_law_d", "_law_halls", "_law_size"]
  d_lcrowd : Df m "_law_crowd" sLCrowd ["_law_d", "_law_halls", "_law_far"]
  d_told : Df m "_law_told" sTold ["_law_work"]
theorem all_ok {m : Md} {CU P CC CB f : Addr} {fd : FuncData} (T : Tx m) (D : Defs m) (DK : DfK m "often" sOften ["one", "times"] ["times"]) (DC : DfC m "_law_calls" sCalls ["_law_halls", "_law_work", "_law_crowd_here"] P) (XU : Xc m "Unlike" CU) (R : Er m CU) (CT : Ctr m CC) (BT : Bch m CB) (F : Fun m.K "law" "law" sLaw f fd) : FnOk m.P m.w m.K m.mg m.base CX0 17 f fd ["_law_script"] (spLaw m P) := by
  have k_need_count := kn_need_count D.d_need_count
  have k_need_halls := kn_need_halls T k_need_count D.d_need_halls
  have k_need_work := kn_need_work T D.d_need_work
  have k_need_crowd := kn_need_crowd T D.d_need_crowd
  have k_doors_of := kn_doors_of T D.d_doors_of
  have k_step := kn_step D.d_step
  have k_run := kn_run T k_need_halls k_need_work k_need_crowd k_doors_of k_step D.d_run
  have k_gone := kn_gone T k_need_halls k_need_work k_need_crowd k_doors_of k_step D.d_gone
  have k_nothing := kn_nothing T D.d_nothing
  have k_opened := kn_opened T D.d_opened
  have k_card_of := kn_card_of T k_nothing k_doors_of k_opened D.d_card_of
  have k_card := kn_card T k_need_halls k_need_work k_card_of D.d_card
  have k_need_card := kn_need_card T D.d_need_card
  have k_through := kn_through T D.d_through
  have k_behind := kn_behind T D.d_behind
  have k_made := kn_made T k_need_card k_need_crowd k_through k_behind D.d_made
  have k_both := kn_both T D.d_both
  have k_joined := kn_joined T k_need_card k_both D.d_joined
  have k_power := kn_power T k_nothing k_both D.d_power
  have k_often := kn_often T k_need_card k_need_count k_power DK
  have k_parts := kn_parts T D.d_parts
  have k_alike := kn_alike T k_need_halls k_need_work k_card_of k_parts D.d_alike
  have k_parting := kn_parting T k_need_card k_parts D.d_parting
  have k_short := kn_short T k_need_halls k_need_work D.d_short
  have k_nexts := kn_nexts T CT k_opened
  have k_ways := kn_ways T CT k_nexts 6
  have k_how_many := kn_how_many T CT k_short k_nothing k_card_of k_ways D.d_how_many
  have k_rank := kn_rank T CT k_nothing k_nexts k_ways
  have k_number_of := kn_number_of T CT k_short k_card_of k_rank D.d_number_of
  have k_beside := kn_beside T k_card_of D.d_beside
  have k_led := kn_led T XU k_need_halls k_need_work k_short k_card_of k_beside D.d_led
  have k_enough := kn_enough T k_need_halls k_need_work k_doors_of D.d_enough
  have k_need_any := kn_need_any T k_need_crowd D.d_need_any
  have k_between := kn_between T k_need_any D.d_between
  have k_still := kn_still T k_power k_through k_behind D.d_still
  have k_rest := kn_rest T k_need_halls k_need_work k_need_crowd k_card_of k_still k_power k_through k_behind D.d_rest
  have k_written := kn_written T k_need_card D.d_written
  have k_keep := kn_keep T BT
  have k_do := kn_do T BT k_need_work k_keep k_doors_of k_step
  have k_bcrowd := kn_bcrowd T BT
  have k_steps := kn_steps T BT
  have k_dice := kn_dice T D.d_dice
  have k_next := kn_next T D.d_next
  have k_lword := kn_lword T k_next D.d_lword
  have k_lcrowd := kn_lcrowd T k_next D.d_lcrowd
  have k_lcut := kn_lcut T D.d_lcut
  have k_lcard := kn_lcard T k_lcut D.d_lcard
  have k_calls := kn_calls T k_lcard DC
  have k_told := kn_told R D.d_told
  exact kn_law T ⟨⟨k_run, k_gone, k_card, k_made, k_joined, k_often, k_alike, k_parting, k_how_many, k_number_of, k_led, k_enough, k_between, k_rest, k_written⟩, BT, kn_binit T BT k_need_any, k_do, k_bcrowd, k_steps, k_dice, k_next, k_lword, k_lcrowd, k_calls, k_told⟩ F
section
variable {P : Program} {w : World} {K : PySem.W.Frag} {h base : Heap} {mg : Str → Option Value}
theorem df_mk {x : Str} {st : Stmt} {ps : List Str} {f : Addr} {oc : Value} {od an : Option Addr} {osl : Array (Option Value)} {kV doc pm cdv ct : Value} (X : K.In h) (G : h.Ns mainGlobals mg)
    (a : PySem.W.nsIn K mainGlobals x = some (some (.ref f))) (l : K.lookup f = some ⟨oc, od, .func (PySem.W.fnOf x x (defArgs st) (defBody st) (defScope st) .none kV doc pm an cdv ct), osl⟩) (c : PySem.W.codeIn K cdv x = true) (k : PySem.W.keepIn K (.ref f) = true)
    (b : ∀ (kV doc pm : Value) (an : Option Addr) (cdv ct : Value) (us : List Value), us.length = ps.length → bindArgs (PySem.W.fnOf x x (defArgs st) (defBody st) (defScope st) .none kV doc pm an cdv ct) ⟨us, []⟩ = pure (ps.zip us)) : Df ⟨P, w, K, mg, base⟩ x st ps :=
  ⟨⟨f, _, fun_mk l c k, PySem.W.mg_of X G a, (fun_mk l c k).binds b⟩⟩
theorem dfk_mk {f : Addr} {oc : Value} {od an : Option Addr} {osl : Array (Option Value)} {kV doc pm cdv ct : Value} (X : K.In h) (G : h.Ns mainGlobals mg)
    (a : PySem.W.nsIn K mainGlobals "often" = some (some (.ref f))) (l : K.lookup f = some ⟨oc, od, .func (PySem.W.fnOf "often" "often" (defArgs sOften) (defBody sOften) (defScope sOften) .none kV doc pm an cdv ct), osl⟩) (c : PySem.W.codeIn K cdv "often" = true) (k : PySem.W.keepIn K (.ref f) = true) :
    DfK ⟨P, w, K, mg, base⟩ "often" sOften ["one", "times"] ["times"] :=
  ⟨⟨f, _, fun_mk l c k, PySem.W.mg_of X G a, often_binds (m := ⟨P, w, K, mg, base⟩) (fun_mk l c k)⟩⟩
theorem mf_mk {C : Addr} {x qual : Str} {st : Stmt} {ps : List Str} {f : Addr} {oc : Value} {od an : Option Addr} {osl : Array (Option Value)} {kV doc pm cdv ct : Value}
    (a : PySem.W.findIn K (.ref C) x = some (some (.ref f))) (i : PySem.W.isFn K (.ref f) = true) (l : K.lookup f = some ⟨oc, od, .func (PySem.W.fnOf x qual (defArgs st) (defBody st) (defScope st) .none kV doc pm an cdv ct), osl⟩) (c : PySem.W.codeIn K cdv qual = true) (k : PySem.W.keepIn K (.ref f) = true)
    (b : ∀ (kV doc pm : Value) (an : Option Addr) (cdv ct : Value) (us : List Value), us.length = ps.length → bindArgs (PySem.W.fnOf x qual (defArgs st) (defBody st) (defScope st) .none kV doc pm an cdv ct) ⟨us, []⟩ = pure (ps.zip us)) : Mf ⟨P, w, K, mg, base⟩ C x qual st ps :=
  ⟨⟨f, _, fun_mk l c k, (fun_mk l c k).binds b, ⟨a, i, k⟩⟩⟩
theorem mk_mk {C : Addr} {qual : Str} {st : Stmt} {ps : List Str} {f : Addr} {oc : Value} {od an : Option Addr} {osl : Array (Option Value)} {kV doc pm cdv ct : Value}
    (a : PySem.W.findIn K (.ref C) "__init__" = some (some (.ref f))) (i : PySem.W.isFn K (.ref f) = true) (l : K.lookup f = some ⟨oc, od, .func (PySem.W.fnOf "__init__" qual (defArgs st) (defBody st) (defScope st) .none kV doc pm an cdv ct), osl⟩) (c : PySem.W.codeIn K cdv qual = true) (k : PySem.W.keepIn K (.ref f) = true)
    (mk : PySem.W.makesIn K C = true) (kp : PySem.W.keepIn K (.ref C) = true)
    (b : ∀ (kV doc pm : Value) (an : Option Addr) (cdv ct : Value) (us : List Value), us.length = ps.length → bindArgs (PySem.W.fnOf "__init__" qual (defArgs st) (defBody st) (defScope st) .none kV doc pm an cdv ct) ⟨us, []⟩ = pure (ps.zip us)) :
    ∃ (f : Addr) (fd : FuncData), Fun K "__init__" qual st f fd ∧ Binds K fd ps [] ∧ Mk K C f :=
  ⟨f, _, fun_mk l c k, (fun_mk l c k).binds b, ⟨mk, a, i, kp⟩⟩
theorem kit_mk {c d : Value} {C : Addr} {r : Bool} (hc : c = .ref C) (hne : r = true ∨ (d == c) = false) (h1 : PySem.W.isClsIn K C = true) (h2 : PySem.W.typeIn K (.ref C) = some (.type "type")) (h3 : PySem.W.subIn K d (.ref C) = some r) : PySem.W.kitOne K d c = some r := by
  subst hc
  have h1' : (PySem.W.clsIn K C).isSome = true := h1
  have e2 : ((PySem.W.clsIn K C).isSome && PySem.W.typeIn K (.ref C) == some (.type "type")) = true := by
    rw [h1', h2] <;> rfl
  show (if (d == Value.ref C) = true then some true else if ((PySem.W.clsIn K C).isSome && PySem.W.typeIn K (.ref C) == some (.type "type")) = true then PySem.W.subIn K d (.ref C) else none) = some r
  rcases hne with rfl | hne
  · by_cases hb : (d == Value.ref C) = true
    · rw [if_pos hb]
    · rw [if_neg hb, if_pos e2]
      exact h3
  · rw [hne, if_neg Bool.false_ne_true, if_pos e2]
    exact h3
theorem exm_mk {S D : Addr} {r : Bool} (h0 : PySem.W.subIn K (.ref D) (.type "BaseException") = some true) (h1 : PySem.W.isClsIn K D = true) (h2 : PySem.W.typeIn K (.ref D) = some (.type "type")) (h3 : PySem.W.subIn K (.ref S) (.ref D) = some r) : PySem.W.exmOne K (.ref S) (.ref D) = some r := by
  have e1 : (PySem.W.subIn K (.ref D) (.type "BaseException") == some true) = true := by rw [h0] <;> rfl
  have h1' : (PySem.W.clsIn K D).isSome = true := h1
  have e2 : ((PySem.W.clsIn K D).isSome && PySem.W.typeIn K (.ref D) == some (.type "type")) = true := by
    rw [h1', h2] <;> rfl
  show (if (PySem.W.subIn K (.ref D) (.type "BaseException") == some true) = true then (if ((PySem.W.clsIn K D).isSome && PySem.W.typeIn K (.ref D) == some (.type "type")) = true then PySem.W.subIn K (.ref S) (.ref D) else none) else none) = some r
  rw [if_pos e1, if_pos e2]
  exact h3
/-- another error's class -/
theorem oth_mk {x : Str} {CU C : Addr} (X : K.In h) (G : h.Ns mainGlobals mg) (a : PySem.W.nsIn K mainGlobals x = some (some (.ref C))) (n : (Value.ref CU == Value.ref C) = false) (h1 : PySem.W.isClsIn K C = true) (h2 : PySem.W.typeIn K (.ref C) = some (.type "type")) (h3 : PySem.W.subIn K (.ref CU) (.ref C) = some false) :
    ∃ C, mg x = some (.ref C) ∧ PySem.W.kitOne K (.ref CU) (.ref C) = some false := ⟨C, PySem.W.mg_of X G a, kit_mk rfl (.inr n) h1 h2 h3⟩
theorem tx_mk {t0 t1 t2 t3 t4 t5 : Tok} (X : K.In h) (G : h.Ns mainGlobals mg)
    (n_len : PySem.W.nsIn K mainGlobals "len" = some none)
    (n_min : PySem.W.nsIn K mainGlobals "min" = some none)
    (n_max : PySem.W.nsIn K mainGlobals "max" = some none)
    (n_sum : PySem.W.nsIn K mainGlobals "sum" = some none)
    (n_tuple : PySem.W.nsIn K mainGlobals "tuple" = some none)
    (n_list : PySem.W.nsIn K mainGlobals "list" = some none)
    (n_int : PySem.W.nsIn K mainGlobals "int" = some none)
    (n_str : PySem.W.nsIn K mainGlobals "str" = some none)
    (n_sorted : PySem.W.nsIn K mainGlobals "sorted" = some none)
    (n_range : PySem.W.nsIn K mainGlobals "range" = some none)
    (n_enum : PySem.W.nsIn K mainGlobals "enumerate" = some none)
    (n_zip : PySem.W.nsIn K mainGlobals "zip" = some none)
    (n_isi : PySem.W.nsIn K mainGlobals "isinstance" = some none)
    (c_doors : PySem.W.nsIn K mainGlobals "DOORS" = some (some (.str "123456" t0)))
    (c_halls : PySem.W.nsIn K mainGlobals "MOST_HALLS" = some (some (.int 6 t1)))
    (c_signs : PySem.W.nsIn K mainGlobals "MOST_SIGNS" = some (some (.int 400 t2)))
    (c_folk : PySem.W.nsIn K mainGlobals "MOST_FOLK" = some (some (.int 1000000000000000000 t3)))
    (c_times : PySem.W.nsIn K mainGlobals "MOST_TIMES" = some (some (.int 1000000000000000000 t4)))
    (c_short : PySem.W.nsIn K mainGlobals "MOST_SHORT" = some (some (.int 8 t5)))
    : Tx ⟨P, w, K, mg, base⟩ :=
  ⟨PySem.W.mg_none_of X G n_len, PySem.W.mg_none_of X G n_min, PySem.W.mg_none_of X G n_max, PySem.W.mg_none_of X G n_sum, PySem.W.mg_none_of X G n_tuple, PySem.W.mg_none_of X G n_list, PySem.W.mg_none_of X G n_int, PySem.W.mg_none_of X G n_str, PySem.W.mg_none_of X G n_sorted, PySem.W.mg_none_of X G n_range, PySem.W.mg_none_of X G n_enum, PySem.W.mg_none_of X G n_zip, PySem.W.mg_none_of X G n_isi, ⟨_, PySem.W.mg_of X G c_doors⟩, ⟨_, PySem.W.mg_of X G c_halls⟩, ⟨_, PySem.W.mg_of X G c_signs⟩, ⟨_, PySem.W.mg_of X G c_folk⟩, ⟨_, PySem.W.mg_of X G c_times⟩, ⟨_, PySem.W.mg_of X G c_short⟩⟩
theorem ctr_mk {C : Addr} (X : K.In h) (G : h.Ns mainGlobals mg) (aC : PySem.W.nsIn K mainGlobals "Counter" = some (some (.ref C))) (pg : PySem.W.plainGet K C Str.empty = true) (hd : PySem.W.hasDictIn K C = true) (po : PySem.W.plainOver K C = true)
    (sa : PySem.W.findIn K (.ref C) "__setattr__" = some (some (.builtin "object.__setattr__"))) (nH : PySem.W.findIn K (.ref C) "halls" = some none) (nG : PySem.W.findIn K (.ref C) "goal" = some none) (nS : PySem.W.findIn K (.ref C) "size" = some none) (nK : PySem.W.findIn K (.ref C) "known" = some none)
    (i : ∃ (f : Addr) (fd : FuncData), Fun K "__init__" "Counter.__init__" sCInit f fd ∧ Binds K fd ["self", "halls", "work"] [] ∧ Mk K C f)
    (m1 : ∀ base, Mf ⟨P, w, K, mg, base⟩ C "nexts" "Counter.nexts" sNexts ["self", "one"]) (m2 : ∀ base, Mf ⟨P, w, K, mg, base⟩ C "ways" "Counter.ways" sWays ["self", "one", "so_far"]) (m3 : ∀ base, Mf ⟨P, w, K, mg, base⟩ C "rank" "Counter.rank" sRank ["self", "work"]) : ∃ C, ∀ base, Ctr ⟨P, w, K, mg, base⟩ C :=
  ⟨C, fun base => ⟨⟨pg, hd, po, sa⟩, nH, nG, nS, nK, PySem.W.mg_of X G aC, i, m1 base, m2 base, m3 base⟩⟩
theorem bch_mk {C : Addr} (X : K.In h) (G : h.Ns mainGlobals mg) (aC : PySem.W.nsIn K mainGlobals "Bench" = some (some (.ref C))) (pg : PySem.W.plainGet K C Str.empty = true) (hd : PySem.W.hasDictIn K C = true) (po : PySem.W.plainOver K C = true)
    (sa : PySem.W.findIn K (.ref C) "__setattr__" = some (some (.builtin "object.__setattr__"))) (nR : PySem.W.findIn K (.ref C) "rows" = some none) (nP : PySem.W.findIn K (.ref C) "past" = some none)
    (i : ∃ (f : Addr) (fd : FuncData), Fun K "__init__" "Bench.__init__" sBInit f fd ∧ Binds K fd ["self", "crowd"] [] ∧ Mk K C f)
    (m1 : ∀ base, Mf ⟨P, w, K, mg, base⟩ C "keep" "Bench.keep" sKeep ["self", "deed"]) (m2 : ∀ base, Mf ⟨P, w, K, mg, base⟩ C "do" "Bench.do" sDo ["self", "work"]) (m3 : ∀ base, Mf ⟨P, w, K, mg, base⟩ C "crowd" "Bench.crowd" sBCrowd ["self"]) (m4 : ∀ base, Mf ⟨P, w, K, mg, base⟩ C "steps" "Bench.steps" sSteps ["self"]) : ∃ C, ∀ base, Bch ⟨P, w, K, mg, base⟩ C :=
  ⟨C, fun base => ⟨⟨pg, hd, po, sa⟩, nR, nP, PySem.W.mg_of X G aC, i, m1 base, m2 base, m3 base, m4 base⟩⟩
theorem er_mk {CU CD : Addr} (X : K.In h) (G : h.Ns mainGlobals mg) (aU : PySem.W.nsIn K mainGlobals "Unlike" = some (some (.ref CU)))
    (xU : PySem.W.excIn K CU [.type "ValueError", .type "Exception", .type "BaseException", .type "object"] "ValueError.__new__" = true) (kU : PySem.W.keepIn K (.ref CU) = true) (sU : PySem.W.subIn K (.ref CU) (.type "BaseException") = some true)
    (tU : PySem.W.typeIn K (.ref CU) = some (.type "type")) (iU : PySem.W.isClsIn K CU = true) (ssU : PySem.W.subIn K (.ref CU) (.ref CU) = some true)
    (gU : PySem.W.findIn K (.ref CU) "__getattribute__" = some (some (.builtin "BaseException.__getattribute__"))) (ggU : PySem.W.findIn K (.ref CU) "__getattr__" = some none) (hdU : PySem.W.hasDictIn K CU = true)
    (clU : PySem.W.findIn K (.ref CU) "__class__" = some (some (.builtin "object.__class__"))) (hn : PySem.W.specialIn K (.builtin "object.__class__") "__get__" = some (some (.builtin "getset_descriptor.__get__"))) (ht : PySem.W.takesIn K (.builtin "object.__class__") = some true) (hm : PySem.W.mroIn K CU (.type "object") = some true)
    (aD : PySem.W.nsIn K mainGlobals "DoorError" = some (some (.ref CD))) (sD : PySem.W.subIn K (.ref CD) (.type "BaseException") = some true) (iD : PySem.W.isClsIn K CD = true) (tD : PySem.W.typeIn K (.ref CD) = some (.type "type")) (uD : PySem.W.subIn K (.ref CU) (.ref CD) = some true)
    (o0 : ∃ C, mg "BadCrowd" = some (.ref C) ∧ PySem.W.kitOne K (.ref CU) (.ref C) = some false)
    (o1 : ∃ C, mg "BadWork" = some (.ref C) ∧ PySem.W.kitOne K (.ref CU) (.ref C) = some false)
    (o2 : ∃ C, mg "BadCard" = some (.ref C) ∧ PySem.W.kitOne K (.ref CU) (.ref C) = some false)
    (o3 : ∃ C, mg "BadDeed" = some (.ref C) ∧ PySem.W.kitOne K (.ref CU) (.ref C) = some false)
    (o4 : ∃ C, mg "BadText" = some (.ref C) ∧ PySem.W.kitOne K (.ref CU) (.ref C) = some false)
    (o5 : ∃ C, mg "BadCount" = some (.ref C) ∧ PySem.W.kitOne K (.ref CU) (.ref C) = some false)
    (o6 : ∃ C, mg "BadMeet" = some (.ref C) ∧ PySem.W.kitOne K (.ref CU) (.ref C) = some false)
    (o7 : ∃ C, mg "BadNumber" = some (.ref C) ∧ PySem.W.kitOne K (.ref CU) (.ref C) = some false)
    (o8 : ∃ C, mg "TooMany" = some (.ref C) ∧ PySem.W.kitOne K (.ref CU) (.ref C) = some false)
    (nI : PySem.W.nsIn K mainGlobals "isinstance" = some none) : ∃ CU, ∀ base, Er ⟨P, w, K, mg, base⟩ CU ∧ Xc ⟨P, w, K, mg, base⟩ "Unlike" CU :=
  ⟨CU, fun base => ⟨⟨⟨CD, PySem.W.mg_of X G aD, exm_mk sD iD tD uD⟩, ⟨gU, ggU, sU, hdU, clU, hn, ht, hm⟩, fun x hx => by
    simp only [List.mem_cons, List.not_mem_nil, or_false] at hx
    rcases hx with rfl | rfl | rfl | rfl | rfl | rfl | rfl | rfl | rfl
    · exact o0
    · exact o1
    · exact o2
    · exact o3
    · exact o4
    · exact o5
    · exact o6
    · exact o7
    · exact o8
    , ⟨PySem.W.mg_of X G aU, kit_mk rfl (.inl rfl) iU tU ssU⟩, PySem.W.mg_none_of X G nI⟩, ⟨PySem.W.mg_of X G aU, xU, kU, sU, tU⟩⟩⟩
end
abbrev rowL : PySem.W.OpenLaw := PySem.Challenge.rw_doorwords_k34_whole_asked_again
theorem fin_law {w : World} {K : PySem.W.Frag} {h : Heap} {mg : Str → Option Value} {fa f g c P : Addr} {oc kV doc pm cdv ct oc2 kV2 doc2 pm2 ct2 : Value} {od an od2 an2 : Option Addr} {osl osl2 : Array (Option Value)} (X : K.In h) (G : h.Ns mainGlobals mg) (hmg : mg "law" = some (.ref fa))
    (d_how_many : ∀ base, Df ⟨rowL.prog, w, K, mg, base⟩ "how_many" sHowMany ["halls", "work"])
    (d_number_of : ∀ base, Df ⟨rowL.prog, w, K, mg, base⟩ "number_of" sNumberOf ["halls", "work"])
    (d_need_count : ∀ base, Df ⟨rowL.prog, w, K, mg, base⟩ "need_count" sNeedCount ["number", "low", "high"])
    (d_need_halls : ∀ base, Df ⟨rowL.prog, w, K, mg, base⟩ "need_halls" sNeedHalls ["halls"])
    (d_need_work : ∀ base, Df ⟨rowL.prog, w, K, mg, base⟩ "need_work" sNeedWork ["halls", "work"])
    (d_need_crowd : ∀ base, Df ⟨rowL.prog, w, K, mg, base⟩ "need_crowd" sNeedCrowd ["halls", "crowd"])
    (d_need_any : ∀ base, Df ⟨rowL.prog, w, K, mg, base⟩ "need_any_crowd" sNeedAny ["crowd"])
    (d_doors_of : ∀ base, Df ⟨rowL.prog, w, K, mg, base⟩ "doors_of" sDoorsOf ["work"])
    (d_written : ∀ base, Df ⟨rowL.prog, w, K, mg, base⟩ "written" sWritten ["one"])
    (d_short : ∀ base, Df ⟨rowL.prog, w, K, mg, base⟩ "need_short" sShort ["halls", "work"])
    (d_beside : ∀ base, Df ⟨rowL.prog, w, K, mg, base⟩ "beside" sBeside ["halls", "work", "goal"])
    (d_led : ∀ base, Df ⟨rowL.prog, w, K, mg, base⟩ "led" sLed ["halls", "one", "other"])
    (d_step : ∀ base, Df ⟨rowL.prog, w, K, mg, base⟩ "step" sStep ["rows", "door"])
    (d_run : ∀ base, Df ⟨rowL.prog, w, K, mg, base⟩ "run" sRun ["halls", "work", "crowd"])
    (d_gone : ∀ base, Df ⟨rowL.prog, w, K, mg, base⟩ "gone" sGone ["halls", "work", "crowd"])
    (d_need_card : ∀ base, Df ⟨rowL.prog, w, K, mg, base⟩ "need_card" sNeedCard ["one"])
    (d_nothing : ∀ base, Df ⟨rowL.prog, w, K, mg, base⟩ "nothing" sNothing ["halls"])
    (d_opened : ∀ base, Df ⟨rowL.prog, w, K, mg, base⟩ "opened" sOpened ["one", "door"])
    (d_card_of : ∀ base, Df ⟨rowL.prog, w, K, mg, base⟩ "card_of" sCardOf ["halls", "work"])
    (d_card : ∀ base, Df ⟨rowL.prog, w, K, mg, base⟩ "card" sCard ["halls", "work"])
    (d_through : ∀ base, Df ⟨rowL.prog, w, K, mg, base⟩ "through" sThrough ["one", "crowd"])
    (d_behind : ∀ base, Df ⟨rowL.prog, w, K, mg, base⟩ "behind" sBehind ["crowd", "went"])
    (d_made : ∀ base, Df ⟨rowL.prog, w, K, mg, base⟩ "made" sMade ["one", "crowd"])
    (d_both : ∀ base, Df ⟨rowL.prog, w, K, mg, base⟩ "both" sBoth ["one", "other"])
    (d_joined : ∀ base, Df ⟨rowL.prog, w, K, mg, base⟩ "joined" sJoined ["one", "other"])
    (d_power : ∀ base, Df ⟨rowL.prog, w, K, mg, base⟩ "power" sPower ["one", "times"])
    (d_enough : ∀ base, Df ⟨rowL.prog, w, K, mg, base⟩ "enough" sEnough ["halls", "work"])
    (d_between : ∀ base, Df ⟨rowL.prog, w, K, mg, base⟩ "between" sBetween ["crowd", "goal"])
    (d_parts : ∀ base, Df ⟨rowL.prog, w, K, mg, base⟩ "first_parting" sParts ["one", "other"])
    (d_alike : ∀ base, Df ⟨rowL.prog, w, K, mg, base⟩ "alike" sAlike ["halls", "one", "other"])
    (d_parting : ∀ base, Df ⟨rowL.prog, w, K, mg, base⟩ "parting" sParting ["one", "other"])
    (d_still : ∀ base, Df ⟨rowL.prog, w, K, mg, base⟩ "is_still" sStill ["one", "crowd", "times"])
    (d_rest : ∀ base, Df ⟨rowL.prog, w, K, mg, base⟩ "at_rest" sRest ["halls", "work", "crowd"])
    (d_lcut : ∀ base, Df ⟨rowL.prog, w, K, mg, base⟩ "_law_cut" sLCut ["_law_work", "_law_first", "_law_last"])
    (d_lcard : ∀ base, Df ⟨rowL.prog, w, K, mg, base⟩ "_law_card" sLCard ["_law_halls", "_law_work"])
    (d_dice : ∀ base, Df ⟨rowL.prog, w, K, mg, base⟩ "_law_dice" sDice ["_law_script"])
    (d_next : ∀ base, Df ⟨rowL.prog, w, K, mg, base⟩ "_law_next" sNext ["_law_dice_here", "_law_many"])
    (d_lword : ∀ base, Df ⟨rowL.prog, w, K, mg, base⟩ "_law_word" sLWord ["_law_d", "_law_halls", "_law_size"])
    (d_lcrowd : ∀ base, Df ⟨rowL.prog, w, K, mg, base⟩ "_law_crowd" sLCrowd ["_law_d", "_law_halls", "_law_far"])
    (d_told : ∀ base, Df ⟨rowL.prog, w, K, mg, base⟩ "_law_told" sTold ["_law_work"])
    (DK : ∀ base, DfK ⟨rowL.prog, w, K, mg, base⟩ "often" sOften ["one", "times"] ["times"]) (T : ∀ base, Tx ⟨rowL.prog, w, K, mg, base⟩) (E : ∃ CU, ∀ base, Er ⟨rowL.prog, w, K, mg, base⟩ CU ∧ Xc ⟨rowL.prog, w, K, mg, base⟩ "Unlike" CU) (C1 : ∃ C, ∀ base, Ctr ⟨rowL.prog, w, K, mg, base⟩ C) (C2 : ∃ C, ∀ base, Bch ⟨rowL.prog, w, K, mg, base⟩ C)
    (aC : PySem.W.nsIn K mainGlobals "_law_calls" = some (some (.ref g))) (lC : K.lookup g = some ⟨oc2, od2, .func (PySem.W.fnOf "_law_calls" "_law_calls" (defArgs sCalls) (defBody sCalls) (defScope sCalls) .none kV2 doc2 pm2 an2 (.ref c) ct2), osl2⟩) (cC : PySem.W.codeIn K (.ref c) "_law_calls" = true) (kC : PySem.W.keepIn K (.ref g) = true)
    (hc : PySem.W.codeHdIn K c P = true) (nT : K.lookup P = none) (hT : h.get? P = some { cls := .none, data := .fields #[] })
    (aL : PySem.W.nsIn K mainGlobals "law" = some (some (.ref f))) (lL : K.lookup f = some ⟨oc, od, .func (PySem.W.fnOf "law" "law" (defArgs sLaw) (defBody sLaw) (defScope sLaw) .none kV doc pm an cdv ct), osl⟩) (cL : PySem.W.codeIn K cdv "law" = true) (kL : PySem.W.keepIn K (.ref f) = true) :
    LawAtS rowL w K CX0 17 63 "_law_script" mg fa h := by
  have e := hmg.symm.trans (PySem.W.mg_of X G aL)
  cases e
  obtain ⟨CU, E⟩ := E
  obtain ⟨CC, C1⟩ := C1
  obtain ⟨CB, C2⟩ := C2
  have F := fun_mk (st := sLaw) lL cL kL
  refine ⟨PySem.W.fnOf "law" "law" (defArgs sLaw) (defBody sLaw) (defScope sLaw) .none kV doc pm an cdv ct, [(c, P)], spLaw ⟨rowL.prog, w, K, mg, h⟩ P, fun p hp => ?_, fun p hp => ?_, fun p hp => ?_, fun s u => PySem.BindsTo.of_eq rfl, fun H a ns hl _ ht hS => ⟨a, ns, rfl, hS, ht (c, P) (List.mem_singleton.mpr rfl), fun _ => rfl⟩, fun base KB GB TB => ?_⟩
  · rw [List.mem_singleton.mp hp]
    exact hT
  · rw [List.mem_singleton.mp hp]
    exact nT
  · rw [List.mem_singleton.mp hp]
    exact PySem.W.codeHd_of_K X hc
  exact all_ok (m := ⟨rowL.prog, w, K, mg, base⟩) (T base) ⟨d_how_many base, d_number_of base, d_need_count base, d_need_halls base, d_need_work base, d_need_crowd base, d_need_any base, d_doors_of base, d_written base, d_short base, d_beside base, d_led base, d_step base, d_run base, d_gone base, d_need_card base, d_nothing base, d_opened base, d_card_of base, d_card base, d_through base, d_behind base, d_made base, d_both base, d_joined base, d_power base, d_enough base, d_between base, d_parts base, d_alike base, d_parting base, d_still base, d_rest base, d_lcut base, d_lcard base, d_dice base, d_next base, d_lword base, d_lcrowd base, d_told base⟩ (DK base) ⟨⟨g, c, oc2, od2, kV2, doc2, pm2, an2, ct2, osl2, lC, cC, kC, PySem.W.mg_of X G aC, (.all fun us hl => match us, hl with | [_, _, _], _ => rfl), TB (c, P) (List.mem_singleton.mpr rfl)⟩⟩ (E base).2 (E base).1 (C1 base) (C2 base) F
end Dw
section
set_option maxHeartbeats 8000000
open PySem PySem.W PyProof.Rows
theorem PySem.Challenge.cw_doorwords_k34_whole_asked_again_holds : PySem.Challenge.rw_doorwords_k34_whole_asked_again.Holds := by
  refine dwHead ?_
  k_fill
  refine LamX.walk_ofTs (l := PySem.Challenge.rw_doorwords_k34_whole_asked_again) (k := 17) (n := 63) (CX := fun _ => L2.CX0) (x := "_law_script") ?n1 ?n2 rfl ⟨rfl, by decide, by decide⟩ (fun w h Y => PySem.W.km_in_of Y) ?F (fun _ _ _ _ _ z => z)
  case n1 => rfl
  case n2 => decide
  intro w mg fa h Y KX G hmg
  have hT := PySem.W.km_tabs_of Y
  refine' Dw.fin_law (P := 585) KX G hmg ?d_how_many ?d_number_of ?d_need_count ?d_need_halls ?d_need_work ?d_need_crowd ?d_need_any ?d_doors_of ?d_written ?d_short ?d_beside ?d_led ?d_step ?d_run ?d_gone ?d_need_card ?d_nothing ?d_opened ?d_card_of ?d_card ?d_through ?d_behind ?d_made ?d_both ?d_joined ?d_power ?d_enough ?d_between ?d_parts ?d_alike ?d_parting ?d_still ?d_rest ?d_lcut ?d_lcard ?d_dice ?d_next ?d_lword ?d_lcrowd ?d_told ?DK ?T ?E ?C1 ?C2 ?aC ?lC ?cC ?kC ?hc ?nT ?hT ?aL ?lL ?cL ?kL
  case d_how_many => intro base; refine' Dw.df_mk KX G ?a ?l ?c ?k ?b; (case a => k_is); (case l => k_is); (case c => k_is); (case k => k_is); (case b => exact fun _ _ _ _ _ _ us hl => match us, hl with | [_, _], _ => rfl)
  case d_number_of => intro base; refine' Dw.df_mk KX G ?a ?l ?c ?k ?b; (case a => k_is); (case l => k_is); (case c => k_is); (case k => k_is); (case b => exact fun _ _ _ _ _ _ us hl => match us, hl with | [_, _], _ => rfl)
  case d_need_count => intro base; refine' Dw.df_mk KX G ?a ?l ?c ?k ?b; (case a => k_is); (case l => k_is); (case c => k_is); (case k => k_is); (case b => exact fun _ _ _ _ _ _ us hl => match us, hl with | [_, _, _], _ => rfl)
  case d_need_halls => intro base; refine' Dw.df_mk KX G ?a ?l ?c ?k ?b; (case a => k_is); (case l => k_is); (case c => k_is); (case k => k_is); (case b => exact fun _ _ _ _ _ _ us hl => match us, hl with | [_], _ => rfl)
  case d_need_work => intro base; refine' Dw.df_mk KX G ?a ?l ?c ?k ?b; (case a => k_is); (case l => k_is); (case c => k_is); (case k => k_is); (case b => exact fun _ _ _ _ _ _ us hl => match us, hl with | [_, _], _ => rfl)
  case d_need_crowd => intro base; refine' Dw.df_mk KX G ?a ?l ?c ?k ?b; (case a => k_is); (case l => k_is); (case c => k_is); (case k => k_is); (case b => exact fun _ _ _ _ _ _ us hl => match us, hl with | [_, _], _ => rfl)
  case d_need_any => intro base; refine' Dw.df_mk KX G ?a ?l ?c ?k ?b; (case a => k_is); (case l => k_is); (case c => k_is); (case k => k_is); (case b => exact fun _ _ _ _ _ _ us hl => match us, hl with | [_], _ => rfl)
  case d_doors_of => intro base; refine' Dw.df_mk KX G ?a ?l ?c ?k ?b; (case a => k_is); (case l => k_is); (case c => k_is); (case k => k_is); (case b => exact fun _ _ _ _ _ _ us hl => match us, hl with | [_], _ => rfl)
  case d_written => intro base; refine' Dw.df_mk KX G ?a ?l ?c ?k ?b; (case a => k_is); (case l => k_is); (case c => k_is); (case k => k_is); (case b => exact fun _ _ _ _ _ _ us hl => match us, hl with | [_], _ => rfl)
  case d_short => intro base; refine' Dw.df_mk KX G ?a ?l ?c ?k ?b; (case a => k_is); (case l => k_is); (case c => k_is); (case k => k_is); (case b => exact fun _ _ _ _ _ _ us hl => match us, hl with | [_, _], _ => rfl)
  case d_beside => intro base; refine' Dw.df_mk KX G ?a ?l ?c ?k ?b; (case a => k_is); (case l => k_is); (case c => k_is); (case k => k_is); (case b => exact fun _ _ _ _ _ _ us hl => match us, hl with | [_, _, _], _ => rfl)
  case d_led => intro base; refine' Dw.df_mk KX G ?a ?l ?c ?k ?b; (case a => k_is); (case l => k_is); (case c => k_is); (case k => k_is); (case b => exact fun _ _ _ _ _ _ us hl => match us, hl with | [_, _, _], _ => rfl)
  case d_step => intro base; refine' Dw.df_mk KX G ?a ?l ?c ?k ?b; (case a => k_is); (case l => k_is); (case c => k_is); (case k => k_is); (case b => exact fun _ _ _ _ _ _ us hl => match us, hl with | [_, _], _ => rfl)
  case d_run => intro base; refine' Dw.df_mk KX G ?a ?l ?c ?k ?b; (case a => k_is); (case l => k_is); (case c => k_is); (case k => k_is); (case b => exact fun _ _ _ _ _ _ us hl => match us, hl with | [_, _, _], _ => rfl)
  case d_gone => intro base; refine' Dw.df_mk KX G ?a ?l ?c ?k ?b; (case a => k_is); (case l => k_is); (case c => k_is); (case k => k_is); (case b => exact fun _ _ _ _ _ _ us hl => match us, hl with | [_, _, _], _ => rfl)
  case d_need_card => intro base; refine' Dw.df_mk KX G ?a ?l ?c ?k ?b; (case a => k_is); (case l => k_is); (case c => k_is); (case k => k_is); (case b => exact fun _ _ _ _ _ _ us hl => match us, hl with | [_], _ => rfl)
  case d_nothing => intro base; refine' Dw.df_mk KX G ?a ?l ?c ?k ?b; (case a => k_is); (case l => k_is); (case c => k_is); (case k => k_is); (case b => exact fun _ _ _ _ _ _ us hl => match us, hl with | [_], _ => rfl)
  case d_opened => intro base; refine' Dw.df_mk KX G ?a ?l ?c ?k ?b; (case a => k_is); (case l => k_is); (case c => k_is); (case k => k_is); (case b => exact fun _ _ _ _ _ _ us hl => match us, hl with | [_, _], _ => rfl)
  case d_card_of => intro base; refine' Dw.df_mk KX G ?a ?l ?c ?k ?b; (case a => k_is); (case l => k_is); (case c => k_is); (case k => k_is); (case b => exact fun _ _ _ _ _ _ us hl => match us, hl with | [_, _], _ => rfl)
  case d_card => intro base; refine' Dw.df_mk KX G ?a ?l ?c ?k ?b; (case a => k_is); (case l => k_is); (case c => k_is); (case k => k_is); (case b => exact fun _ _ _ _ _ _ us hl => match us, hl with | [_, _], _ => rfl)
  case d_through => intro base; refine' Dw.df_mk KX G ?a ?l ?c ?k ?b; (case a => k_is); (case l => k_is); (case c => k_is); (case k => k_is); (case b => exact fun _ _ _ _ _ _ us hl => match us, hl with | [_, _], _ => rfl)
  case d_behind => intro base; refine' Dw.df_mk KX G ?a ?l ?c ?k ?b; (case a => k_is); (case l => k_is); (case c => k_is); (case k => k_is); (case b => exact fun _ _ _ _ _ _ us hl => match us, hl with | [_, _], _ => rfl)
  case d_made => intro base; refine' Dw.df_mk KX G ?a ?l ?c ?k ?b; (case a => k_is); (case l => k_is); (case c => k_is); (case k => k_is); (case b => exact fun _ _ _ _ _ _ us hl => match us, hl with | [_, _], _ => rfl)
  case d_both => intro base; refine' Dw.df_mk KX G ?a ?l ?c ?k ?b; (case a => k_is); (case l => k_is); (case c => k_is); (case k => k_is); (case b => exact fun _ _ _ _ _ _ us hl => match us, hl with | [_, _], _ => rfl)
  case d_joined => intro base; refine' Dw.df_mk KX G ?a ?l ?c ?k ?b; (case a => k_is); (case l => k_is); (case c => k_is); (case k => k_is); (case b => exact fun _ _ _ _ _ _ us hl => match us, hl with | [_, _], _ => rfl)
  case d_power => intro base; refine' Dw.df_mk KX G ?a ?l ?c ?k ?b; (case a => k_is); (case l => k_is); (case c => k_is); (case k => k_is); (case b => exact fun _ _ _ _ _ _ us hl => match us, hl with | [_, _], _ => rfl)
  case d_enough => intro base; refine' Dw.df_mk KX G ?a ?l ?c ?k ?b; (case a => k_is); (case l => k_is); (case c => k_is); (case k => k_is); (case b => exact fun _ _ _ _ _ _ us hl => match us, hl with | [_, _], _ => rfl)
  case d_between => intro base; refine' Dw.df_mk KX G ?a ?l ?c ?k ?b; (case a => k_is); (case l => k_is); (case c => k_is); (case k => k_is); (case b => exact fun _ _ _ _ _ _ us hl => match us, hl with | [_, _], _ => rfl)
  case d_parts => intro base; refine' Dw.df_mk KX G ?a ?l ?c ?k ?b; (case a => k_is); (case l => k_is); (case c => k_is); (case k => k_is); (case b => exact fun _ _ _ _ _ _ us hl => match us, hl with | [_, _], _ => rfl)
  case d_alike => intro base; refine' Dw.df_mk KX G ?a ?l ?c ?k ?b; (case a => k_is); (case l => k_is); (case c => k_is); (case k => k_is); (case b => exact fun _ _ _ _ _ _ us hl => match us, hl with | [_, _, _], _ => rfl)
  case d_parting => intro base; refine' Dw.df_mk KX G ?a ?l ?c ?k ?b; (case a => k_is); (case l => k_is); (case c => k_is); (case k => k_is); (case b => exact fun _ _ _ _ _ _ us hl => match us, hl with | [_, _], _ => rfl)
  case d_still => intro base; refine' Dw.df_mk KX G ?a ?l ?c ?k ?b; (case a => k_is); (case l => k_is); (case c => k_is); (case k => k_is); (case b => exact fun _ _ _ _ _ _ us hl => match us, hl with | [_, _, _], _ => rfl)
  case d_rest => intro base; refine' Dw.df_mk KX G ?a ?l ?c ?k ?b; (case a => k_is); (case l => k_is); (case c => k_is); (case k => k_is); (case b => exact fun _ _ _ _ _ _ us hl => match us, hl with | [_, _, _], _ => rfl)
  case d_lcut => intro base; refine' Dw.df_mk KX G ?a ?l ?c ?k ?b; (case a => k_is); (case l => k_is); (case c => k_is); (case k => k_is); (case b => exact fun _ _ _ _ _ _ us hl => match us, hl with | [_, _, _], _ => rfl)
  case d_lcard => intro base; refine' Dw.df_mk KX G ?a ?l ?c ?k ?b; (case a => k_is); (case l => k_is); (case c => k_is); (case k => k_is); (case b => exact fun _ _ _ _ _ _ us hl => match us, hl with | [_, _], _ => rfl)
  case d_dice => intro base; refine' Dw.df_mk KX G ?a ?l ?c ?k ?b; (case a => k_is); (case l => k_is); (case c => k_is); (case k => k_is); (case b => exact fun _ _ _ _ _ _ us hl => match us, hl with | [_], _ => rfl)
  case d_next => intro base; refine' Dw.df_mk KX G ?a ?l ?c ?k ?b; (case a => k_is); (case l => k_is); (case c => k_is); (case k => k_is); (case b => exact fun _ _ _ _ _ _ us hl => match us, hl with | [_, _], _ => rfl)
  case d_lword => intro base; refine' Dw.df_mk KX G ?a ?l ?c ?k ?b; (case a => k_is); (case l => k_is); (case c => k_is); (case k => k_is); (case b => exact fun _ _ _ _ _ _ us hl => match us, hl with | [_, _, _], _ => rfl)
  case d_lcrowd => intro base; refine' Dw.df_mk KX G ?a ?l ?c ?k ?b; (case a => k_is); (case l => k_is); (case c => k_is); (case k => k_is); (case b => exact fun _ _ _ _ _ _ us hl => match us, hl with | [_, _, _], _ => rfl)
  case d_told => intro base; refine' Dw.df_mk KX G ?a ?l ?c ?k ?b; (case a => k_is); (case l => k_is); (case c => k_is); (case k => k_is); (case b => exact fun _ _ _ _ _ _ us hl => match us, hl with | [_], _ => rfl)
  case DK => intro base; refine' Dw.dfk_mk KX G ?a ?l ?c ?k; (case a => k_is); (case l => k_is); (case c => k_is); (case k => k_is)
  case T => intro base; refine' Dw.tx_mk KX G ?n_len ?n_min ?n_max ?n_sum ?n_tuple ?n_list ?n_int ?n_str ?n_sorted ?n_range ?n_enum ?n_zip ?n_isi ?c_doors ?c_halls ?c_signs ?c_folk ?c_times ?c_short; (case n_len => k_is); (case n_min => k_is); (case n_max => k_is); (case n_sum => k_is); (case n_tuple => k_is); (case n_list => k_is); (case n_int => k_is); (case n_str => k_is); (case n_sorted => k_is); (case n_range => k_is); (case n_enum => k_is); (case n_zip => k_is); (case n_isi => k_is); (case c_doors => k_is); (case c_halls => k_is); (case c_signs => k_is); (case c_folk => k_is); (case c_times => k_is); (case c_short => k_is)
  case E =>
    refine' Dw.er_mk KX G ?aU ?xU ?kU ?sU ?tU ?iU ?ssU ?gU ?ggU ?hdU ?clU ?hn ?ht ?hm ?aD ?sD ?iD ?tD ?uD ?o0 ?o1 ?o2 ?o3 ?o4 ?o5 ?o6 ?o7 ?o8 ?nI
    case aU => k_is
    case xU => k_exc
    case kU => k_is
    case sU => k_is
    case tU => k_is
    case iU => k_is
    case ssU => first | rfl | k_is
    case gU => k_is
    case ggU => k_is
    case hdU => k_is
    case clU => k_is
    case hn => k_is
    case ht => k_is
    case hm => k_is
    case aD => k_is
    case sD => k_is
    case iD => k_is
    case tD => k_is
    case uD => k_is
    case o0 => refine' Dw.oth_mk KX G ?a ?n ?h1 ?h2 ?h3; (case a => k_is); (case n => rfl); (case h1 => k_is); (case h2 => k_is); (case h3 => k_is)
    case o1 => refine' Dw.oth_mk KX G ?a ?n ?h1 ?h2 ?h3; (case a => k_is); (case n => rfl); (case h1 => k_is); (case h2 => k_is); (case h3 => k_is)
    case o2 => refine' Dw.oth_mk KX G ?a ?n ?h1 ?h2 ?h3; (case a => k_is); (case n => rfl); (case h1 => k_is); (case h2 => k_is); (case h3 => k_is)
    case o3 => refine' Dw.oth_mk KX G ?a ?n ?h1 ?h2 ?h3; (case a => k_is); (case n => rfl); (case h1 => k_is); (case h2 => k_is); (case h3 => k_is)
    case o4 => refine' Dw.oth_mk KX G ?a ?n ?h1 ?h2 ?h3; (case a => k_is); (case n => rfl); (case h1 => k_is); (case h2 => k_is); (case h3 => k_is)
    case o5 => refine' Dw.oth_mk KX G ?a ?n ?h1 ?h2 ?h3; (case a => k_is); (case n => rfl); (case h1 => k_is); (case h2 => k_is); (case h3 => k_is)
    case o6 => refine' Dw.oth_mk KX G ?a ?n ?h1 ?h2 ?h3; (case a => k_is); (case n => rfl); (case h1 => k_is); (case h2 => k_is); (case h3 => k_is)
    case o7 => refine' Dw.oth_mk KX G ?a ?n ?h1 ?h2 ?h3; (case a => k_is); (case n => rfl); (case h1 => k_is); (case h2 => k_is); (case h3 => k_is)
    case o8 => refine' Dw.oth_mk KX G ?a ?n ?h1 ?h2 ?h3; (case a => k_is); (case n => rfl); (case h1 => k_is); (case h2 => k_is); (case h3 => k_is)
    case nI => k_is
  case C1 =>
    refine' Dw.ctr_mk KX G ?aK ?pg ?hd ?po ?sa ?nH ?nG ?nS ?nK ?i ?m1 ?m2 ?m3
    case aK => k_is
    case pg => k_is
    case hd => k_is
    case po => k_is
    case sa => k_is
    case nH => k_is
    case nG => k_is
    case nS => k_is
    case nK => k_is
    case i => refine' Dw.mk_mk ?a ?i ?l ?c ?k ?mk ?kp ?b; (case a => k_is); (case i => k_is); (case l => k_is); (case c => k_is); (case k => k_is); (case mk => k_is); (case kp => k_is); (case b => exact fun _ _ _ _ _ _ us hl => match us, hl with | [_, _, _], _ => rfl)
    case m1 => intro base; refine' Dw.mf_mk ?a ?i ?l ?c ?k ?b; (case a => k_is); (case i => k_is); (case l => k_is); (case c => k_is); (case k => k_is); (case b => exact fun _ _ _ _ _ _ us hl => match us, hl with | [_, _], _ => rfl)
    case m2 => intro base; refine' Dw.mf_mk ?a ?i ?l ?c ?k ?b; (case a => k_is); (case i => k_is); (case l => k_is); (case c => k_is); (case k => k_is); (case b => exact fun _ _ _ _ _ _ us hl => match us, hl with | [_, _, _], _ => rfl)
    case m3 => intro base; refine' Dw.mf_mk ?a ?i ?l ?c ?k ?b; (case a => k_is); (case i => k_is); (case l => k_is); (case c => k_is); (case k => k_is); (case b => exact fun _ _ _ _ _ _ us hl => match us, hl with | [_, _], _ => rfl)
  case C2 =>
    refine' Dw.bch_mk KX G ?aK ?pg ?hd ?po ?sa ?nR ?nP ?i ?m1 ?m2 ?m3 ?m4
    case aK => k_is
    case pg => k_is
    case hd => k_is
    case po => k_is
    case sa => k_is
    case nR => k_is
    case nP => k_is
    case i => refine' Dw.mk_mk ?a ?i ?l ?c ?k ?mk ?kp ?b; (case a => k_is); (case i => k_is); (case l => k_is); (case c => k_is); (case k => k_is); (case mk => k_is); (case kp => k_is); (case b => exact fun _ _ _ _ _ _ us hl => match us, hl with | [_, _], _ => rfl)
    case m1 => intro base; refine' Dw.mf_mk ?a ?i ?l ?c ?k ?b; (case a => k_is); (case i => k_is); (case l => k_is); (case c => k_is); (case k => k_is); (case b => exact fun _ _ _ _ _ _ us hl => match us, hl with | [_, _], _ => rfl)
    case m2 => intro base; refine' Dw.mf_mk ?a ?i ?l ?c ?k ?b; (case a => k_is); (case i => k_is); (case l => k_is); (case c => k_is); (case k => k_is); (case b => exact fun _ _ _ _ _ _ us hl => match us, hl with | [_, _], _ => rfl)
    case m3 => intro base; refine' Dw.mf_mk ?a ?i ?l ?c ?k ?b; (case a => k_is); (case i => k_is); (case l => k_is); (case c => k_is); (case k => k_is); (case b => exact fun _ _ _ _ _ _ us hl => match us, hl with | [_], _ => rfl)
    case m4 => intro base; refine' Dw.mf_mk ?a ?i ?l ?c ?k ?b; (case a => k_is); (case i => k_is); (case l => k_is); (case c => k_is); (case k => k_is); (case b => exact fun _ _ _ _ _ _ us hl => match us, hl with | [_], _ => rfl)
  case aC => k_is
  case lC => k_is
  case cC => k_is
  case kC => k_is
  case hc => kernel_rfl
  case nT => kernel_rfl
  case hT => exact hT 585 (by k_mem)
  case aL => k_is
  case lL => k_is
  case cL => k_is
  case kL => k_is
end
