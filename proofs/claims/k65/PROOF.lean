import PyProof.Rows.All
import Wide.All
import OpenK.AllK
import Wide.FinOn
import PySem.Challenge.RW_clothinonepiece_k65_whole_counts_wide
import HandS.ForMost
import HandS.TupAny
import HandS.TupLe
import HandS.IsInst
import HandS.Style
import KE.GoesEnum
import KE.GoesNew
import KE.SortData
import HandS.SortKw
import KE.SortCalls
import HandS.Deep
import HandS.TupMul
import PyProof.P3In
set_option Elab.async false
set_option linter.all false
set_option maxRecDepth 100000
/-! Asl: an abstract-store logic over the hand layer. A def's state is a list of slots (data, or an address) and a symbolic heap of the objects that may change.
    Data (None, bools, ints, texts, tuples, lists that nobody changes any more) stand as PyData, whatever the heap does. -/
namespace Asl
open PySem PySem.Spec L2
open PyProof.Rows hiding St

/-! ### data stay data -/
theorem rd_mono {G H : Hp} (e : Same G H) {a : Addr} {u : HO} : Rd G a u → Rd H a u
  | .inl h => .inl (e _ _ h)
  | .inr ⟨o, h⟩ => .inr ⟨o, e _ _ h⟩
theorem sqT_mono {K : PySem.W.Frag} {G H : Hp} (e : Same G H) {a : Addr} {xs : List V} : SqT K G a xs → SqT K H a xs
  | .inl h => .inl (rd_mono e h)
  | .inr h => .inr h
theorem sqL_mono {K : PySem.W.Frag} {G H : Hp} (e : Same G H) {a : Addr} {xs : List V} : SqL K G a xs → SqL K H a xs
  | .inl h => .inl (rd_mono e h)
  | .inr h => .inr h
mutual
/-- the value v stands for the data x: lists are tracked ones of G -/
inductive Dt (K : PySem.W.Frag) (G : Hp) : V → PyData → Prop
  | non : Dt K G .non .none
  | bl (b : Bool) : Dt K G (.bl b) (.bool b)
  | int (i : Int) : Dt K G (.int i) (.int i)
  | str (x : Str) : Dt K G (.str x) (.str x)
  | lst {p : Addr} {us : List V} {es : List PyData} (h : G p = some (.lst us)) (k : DtAll K G us es) : Dt K G (.ref p) (.list es)
  | tup {p : Addr} {us : List V} {es : List PyData} (h : SqT K G p us) (k : DtAll K G us es) : Dt K G (.ref p) (.tuple es)
inductive DtAll (K : PySem.W.Frag) (G : Hp) : List V → List PyData → Prop
  | nil : DtAll K G [] []
  | cons {u : V} {us : List V} {x : PyData} {es : List PyData} (h : Dt K G u x) (k : DtAll K G us es) : DtAll K G (u :: us) (x :: es)
end
mutual
theorem Dt.dp {K : PySem.W.Frag} {G : Hp} : ∀ (d : PyData) (v : V), Dt K G v d → Dp K G v d
  | .none, _, h => by cases h; exact .non
  | .bool b, _, h => by cases h; exact .bl b
  | .int i, _, h => by cases h; exact .int i
  | .str x, _, h => by cases h; exact .str x
  | .list ds, _, h => by
    cases h with
    | lst hs ha => exact .lst (.inl (.inl hs)) (Dt.dpA ds _ ha)
  | .tuple ds, _, h => by
    cases h with
    | tup hs ha => exact .tup hs (Dt.dpA ds _ ha)
  | .dict _, _, h => by cases h
theorem Dt.dpA {K : PySem.W.Frag} {G : Hp} : ∀ (ds : List PyData) (vs : List V), DtAll K G vs ds → DpAll K G vs ds
  | [], _, h => by cases h; exact .nil
  | d :: ds, _, h => by
    cases h with
    | cons h1 h2 => exact .cons (Dt.dp d _ h1) (Dt.dpA ds _ h2)
end
mutual
theorem dp_mono {K : PySem.W.Frag} {G H : Hp} (e : Same G H) : ∀ (d : PyData) (v : V), Dt K G v d → Dt K H v d
  | .none, _, h => by cases h; exact .non
  | .bool b, _, h => by cases h; exact .bl b
  | .int i, _, h => by cases h; exact .int i
  | .str x, _, h => by cases h; exact .str x
  | .list ds, _, h => by
    cases h with
    | lst hs ha => exact .lst (e _ _ hs) (dpA_mono e ds _ ha)
  | .tuple ds, _, h => by
    cases h with
    | tup hs ha => exact .tup (sqT_mono e hs) (dpA_mono e ds _ ha)
  | .dict _, _, h => by cases h
theorem dpA_mono {K : PySem.W.Frag} {G H : Hp} (e : Same G H) : ∀ (ds : List PyData) (vs : List V), DtAll K G vs ds → DtAll K H vs ds
  | [], _, h => by cases h; exact .nil
  | d :: ds, _, h => by
    cases h with
    | cons h1 h2 => exact .cons (dp_mono e d _ h1) (dpA_mono e ds _ h2)
end
section
variable {K : PySem.W.Frag} {G H : Hp}
theorem dpA_len : ∀ {vs : List V} {ds : List PyData}, DtAll K G vs ds → vs.length = ds.length
  | [], [], _ => rfl
  | _ :: _, _ :: _, h => by
    cases h with
    | cons h1 h2 => rw [List.length_cons, List.length_cons, dpA_len h2]
  | [], _ :: _, h => by cases h
  | _ :: _, [], h => by cases h
theorem dpA_get : ∀ {vs : List V} {ds : List PyData} {i : Nat} {d : PyData}, DtAll K G vs ds → ds[i]? = some d → ∃ v, vs[i]? = some v ∧ Dt K G v d
  | [], [], _, _, _, e => by simp at e
  | _ :: _, [], _, _, h, _ => by cases h
  | [], _ :: _, _, _, h, _ => by cases h
  | v :: vs, x :: ds, 0, d, h, e => by
    cases h with
    | cons h1 h2 =>
      have : x = d := by simpa using e
      subst this
      exact ⟨v, rfl, h1⟩
  | v :: vs, x :: ds, i + 1, d, h, e => by
    cases h with
    | cons h1 h2 =>
      obtain ⟨u, e1, h3⟩ := dpA_get (i := i) (d := d) h2 (by simpa using e)
      exact ⟨u, by simpa using e1, h3⟩
theorem dpA_app : ∀ {vs : List V} {ds : List PyData} {vs' : List V} {ds' : List PyData}, DtAll K G vs ds → DtAll K G vs' ds' → DtAll K G (vs ++ vs') (ds ++ ds')
  | [], [], _, _, _, h => h
  | _ :: _, _ :: _, _, _, h, h' => by
    cases h with
    | cons h1 h2 => exact .cons h1 (dpA_app h2 h')
  | [], _ :: _, _, _, h, _ => by cases h
  | _ :: _, [], _, _, h, _ => by cases h
theorem dpA_take : ∀ {vs : List V} {ds : List PyData} (n : Nat), DtAll K G vs ds → DtAll K G (vs.take n) (ds.take n)
  | [], [], n, _ => by rw [List.take_nil, List.take_nil]; exact .nil
  | _ :: _, _ :: _, 0, _ => .nil
  | _ :: _, _ :: _, n + 1, h => by
    cases h with
    | cons h1 h2 => exact .cons h1 (dpA_take n h2)
  | [], _ :: _, _, h => by cases h
  | _ :: _, [], _, h => by cases h
theorem dpA_drop : ∀ {vs : List V} {ds : List PyData} (n : Nat), DtAll K G vs ds → DtAll K G (vs.drop n) (ds.drop n)
  | [], [], n, _ => by rw [List.drop_nil, List.drop_nil]; exact .nil
  | _ :: _, _ :: _, 0, h => h
  | _ :: _, _ :: _, n + 1, h => by
    cases h with
    | cons h1 h2 => exact dpA_drop n h2
  | [], _ :: _, _, h => by cases h
  | _ :: _, [], _, h => by cases h
theorem dpA_ints : ∀ {vs : List V} {ns : List Int}, DtAll K G vs (ns.map .int) → vs = ns.map .int
  | [], [], _ => rfl
  | [], _ :: _, h => by cases h
  | _ :: _, [], h => by cases h
  | v :: vs, n :: ns, h => by
    cases h with
    | cons h1 h2 =>
      cases h1
      rw [dpA_ints h2]
      rfl
theorem dpA_bools : ∀ {vs : List V} {bs : List Bool}, DtAll K G vs (bs.map .bool) → vs = bs.map .bl
  | [], [], _ => rfl
  | [], _ :: _, h => by cases h
  | _ :: _, [], h => by cases h
  | v :: vs, n :: ns, h => by
    cases h with
    | cons h1 h2 =>
      cases h1
      rw [dpA_bools h2]
      rfl
theorem ints_dpA : ∀ (ns : List Int), DtAll K G (ns.map .int) (ns.map .int)
  | [] => .nil
  | n :: ns => .cons (.int n) (ints_dpA ns)
end

/-! ### slots, objects that may change -/
/-- what a slot or a place of a list holds: data, or the object at an address; z: the script -/
inductive EV where
  | d (x : PyData)
  | r (a : Addr)
  | z (ns : List Int)
def Rv (K : PySem.W.Frag) (G : Hp) (v : V) : EV → Prop
  | .d x => Dt K G v x
  | .r a => v = .ref a
  | .z ns => ∃ a, v = .ref a ∧ SqL K G a (ns.map .int)
/-- an object that may change -/
inductive OC where
  | lst (es : List EV)
  | dK (kvs : List (Key × EV))
  | dT (kvs : List (List Key × EV))
def OcR (K : PySem.W.Frag) (G : Hp) (o : HO) : OC → Prop
  | .lst es => ∃ xs, o = .lst xs ∧ Paired (Rv K G) xs es
  | .dK kvs => ∃ ks, o = .dK ks ∧ Paired (fun p q => p.1 = q.1 ∧ Rv K G p.2 q.2) ks kvs
  | .dT kvs => ∃ ks, o = .dT ks ∧ Paired (fun p q => p.1 = q.1 ∧ Rv K G p.2 q.2) ks kvs
abbrev Hs := List (Addr × OC)
abbrev Sl := List (Option EV)
theorem rv_mono {K : PySem.W.Frag} {G H : Hp} (e : Same G H) {v : V} : ∀ {x : EV}, Rv K G v x → Rv K H v x
  | .d x, h => dp_mono e x v h
  | .r _, h => h
  | .z _, ⟨a, h1, h2⟩ => ⟨a, h1, sqL_mono e h2⟩
theorem ocR_mono {K : PySem.W.Frag} {G H : Hp} (e : Same G H) {o : HO} : ∀ {x : OC}, OcR K G o x → OcR K H o x
  | .lst _, ⟨xs, h1, h2⟩ => ⟨xs, h1, Paired.mapP h2 fun _ _ h => rv_mono e h⟩
  | .dK _, ⟨xs, h1, h2⟩ => ⟨xs, h1, Paired.mapP h2 fun _ _ h => ⟨h.1, rv_mono e h.2⟩⟩
  | .dT _, ⟨xs, h1, h2⟩ => ⟨xs, h1, Paired.mapP h2 fun _ _ h => ⟨h.1, rv_mono e h.2⟩⟩

/-- G grows, and takes nothing of the frame F -/
structure Grow (F G G' : Hp) : Prop where
  up : Same G G'
  fr : ∀ b, F b ≠ none → G' b = G b
theorem Grow.refl (F G : Hp) : Grow F G G := ⟨Same.refl G, fun _ _ => rfl⟩
theorem Grow.trans {F G G1 G2 : Hp} (a : Grow F G G1) (b : Grow F G1 G2) : Grow F G G2 :=
  ⟨a.up.trans b.up, fun x h => (b.fr x h).trans (a.fr x h)⟩
/-- the heap: F the frame (kept as it is), G the data (kept, grows), hs what may change -/
structure HH (K : PySem.W.Frag) (F G H : Hp) (hs : Hs) : Prop where
  f : Same F H
  g : Same G H
  own : ∀ a oc, (a, oc) ∈ hs → F a = none ∧ G a = none ∧ ∃ o, H a = some o ∧ OcR K G o oc
  nd : (hs.map (·.1)).Nodup
/-- the slots -/
def SL (K : PySem.W.Frag) (G : Hp) (σ : St) (ss : Sl) : Prop := ∀ (i : Nat) (ev : EV), ss[i]? = some (some ev) → ∃ v, σ[i]? = some (some v) ∧ Rv K G v ev
theorem SL.mono {K : PySem.W.Frag} {G G' : Hp} {σ : St} {ss : Sl} (h : SL K G σ ss) (e : Same G G') : SL K G' σ ss := fun i ev q => by
  obtain ⟨v, e1, h1⟩ := h i ev q
  exact ⟨v, e1, rv_mono e h1⟩
theorem SL.set {K : PySem.W.Frag} {G : Hp} {σ : St} {ss : Sl} {v : V} {ev : EV} (h : SL K G σ ss) (hl : ss.length ≤ σ.length) (r : Rv K G v ev) (i : Nat) : SL K G (σ.set i (some v)) (ss.set i (some ev)) := fun j e q => by
  rw [List.getElem?_set] at q
  split at q
  · rename_i hij
    subst hij
    split at q
    · rename_i hl2
      have : ev = e := by simpa using q
      subst this
      exact ⟨v, by rw [List.getElem?_set_self (Nat.lt_of_lt_of_le hl2 hl)], r⟩
    · cases q
  · rename_i hij
    obtain ⟨u, e1, h1⟩ := h j e q
    exact ⟨u, by rw [List.getElem?_set_ne hij]; exact e1, h1⟩
theorem SL.nil {K : PySem.W.Frag} {G : Hp} {σ : St} : SL K G σ [] := fun i ev q => by simp at q

section
variable {K : PySem.W.Frag} {F G H : Hp} {hs : Hs}
theorem same_new {H : Hp} {p : Addr} {o : HO} (h : H p = none) : Same H (upd H p o) := fun b x e => by
  rw [upd_ne (ne_of_none e h)]
  exact e
theorem fresh_of {F H : Hp} (e : Same F H) {p : Addr} (h : H p = none) : F p = none := e.free h
/-- a new object of the data -/
theorem HH.data {p : Addr} {o : HO} (h : HH K F G H hs) (n : H p = none) : Grow F G (upd G p o) ∧ HH K F (upd G p o) (upd H p o) hs := by
  have gn := fresh_of h.g n
  have fn := fresh_of h.f n
  refine ⟨⟨same_new gn, fun b hb => upd_ne fun z => hb (z ▸ fn)⟩, fun b x e => ?_, fun b x e => ?_, fun a oc m => ?_, h.nd⟩
  · exact same_new n b x (h.f b x e)
  · by_cases hb : b = p
    · subst hb
      rw [upd_same] at e ⊢
      exact e
    · rw [upd_ne hb] at e ⊢
      exact h.g b x e
  · obtain ⟨q1, q2, o', q3, q4⟩ := h.own a oc m
    have ne := ne_of_none q3 n
    refine ⟨q1, by rw [upd_ne ne]; exact q2, o', by rw [upd_ne ne]; exact q3, ocR_mono (same_new gn) q4⟩
/-- a new object that may change -/
theorem HH.fresh {p : Addr} {o : HO} {oc : OC} (h : HH K F G H hs) (n : H p = none) (r : OcR K G o oc) : HH K F G (upd H p o) ((p, oc) :: hs) := by
  refine ⟨fun b x e => same_new n b x (h.f b x e), fun b x e => same_new n b x (h.g b x e), fun a oc' m => ?_, ?_⟩
  · rcases List.mem_cons.mp m with e | m
    · cases e
      exact ⟨fresh_of h.f n, fresh_of h.g n, o, upd_same, r⟩
    · obtain ⟨q1, q2, o', q3, q4⟩ := h.own a oc' m
      exact ⟨q1, q2, o', by rw [upd_ne (ne_of_none q3 n)]; exact q3, q4⟩
  · rw [List.map_cons, List.nodup_cons]
    refine ⟨fun m => ?_, h.nd⟩
    obtain ⟨⟨a, oc'⟩, m1, e⟩ := List.mem_map.mp m
    obtain ⟨_, _, o', q3, _⟩ := h.own a oc' m1
    have e' : a = p := e
    rw [e', n] at q3
    cases q3
/-- an object changes -/
def putH (hs : Hs) (a : Addr) (oc : OC) : Hs := hs.map fun p => if p.1 = a then (a, oc) else p
theorem putH_keys (hs : Hs) (a : Addr) (oc : OC) : (putH hs a oc).map (·.1) = hs.map (·.1) := by
  unfold putH
  rw [List.map_map]
  refine List.map_congr_left fun p _ => ?_
  show (if p.1 = a then (a, oc) else p).1 = p.1
  split
  · rename_i e
    exact e.symm
  · rfl
theorem HH.put {a : Addr} {o : HO} {oc oc' : OC} (h : HH K F G H hs) (m : (a, oc) ∈ hs) (r : OcR K G o oc') : HH K F G (upd H a o) (putH hs a oc') := by
  obtain ⟨p1, p2, o1, p3, p4⟩ := h.own a oc m
  refine ⟨fun b x e => ?_, fun b x e => ?_, fun b u mu => ?_, by rw [putH_keys]; exact h.nd⟩
  · rw [upd_ne (ne_of_none e p1)]
    exact h.f b x e
  · rw [upd_ne (ne_of_none e p2)]
    exact h.g b x e
  · obtain ⟨⟨c, w⟩, mc, e⟩ := List.mem_map.mp mu
    have e' : (if c = a then (a, oc') else (c, w)) = (b, u) := e
    split at e'
    · cases e'
      exact ⟨p1, p2, o, upd_same, r⟩
    · rename_i hne
      cases e'
      obtain ⟨q1, q2, o', q3, q4⟩ := h.own _ _ mc
      exact ⟨q1, q2, o', by rw [upd_ne hne]; exact q3, q4⟩
/-- fewer objects told -/
theorem HH.sub {hs' : Hs} (h : HH K F G H hs) (e : hs'.Sublist hs) : HH K F G H hs' :=
  ⟨h.f, h.g, fun a oc m => h.own a oc (e.subset m), h.nd.sublist (e.map _)⟩
/-- a list that changes no more is data from here on -/
theorem paired_d : ∀ {xs : List V} {ds : List PyData}, Paired (Rv K G) xs (ds.map .d) → DtAll K G xs ds
  | [], [], _ => .nil
  | _ :: _, _ :: _, h => by
    cases h with
    | cons h1 h2 => exact .cons h1 (paired_d h2)
  | [], _ :: _, h => by cases h
  | _ :: _, [], h => by cases h
theorem d_paired : ∀ {xs : List V} {ds : List PyData}, DtAll K G xs ds → Paired (Rv K G) xs (ds.map .d)
  | [], [], _ => .nil
  | _ :: _, _ :: _, h => by
    cases h with
    | cons h1 h2 => exact .cons h1 (d_paired h2)
  | [], _ :: _, h => by cases h
  | _ :: _, [], h => by cases h
theorem HH.freeze {a : Addr} {ds : List PyData} (h : HH K F G H ((a, .lst (ds.map .d)) :: hs)) : ∃ G', Grow F G G' ∧ HH K F G' H hs ∧ Dt K G' (.ref a) (.list ds) := by
  obtain ⟨p1, p2, o, p3, xs, rfl, p4⟩ := h.own a _ List.mem_cons_self
  have nd := h.nd
  rw [List.map_cons, List.nodup_cons] at nd
  refine ⟨upd G a (.lst xs), ⟨same_new p2, fun b hb => upd_ne fun z => hb (z ▸ p1)⟩, ⟨h.f, fun b x e => ?_, fun b oc m => ?_, nd.2⟩, ?_⟩
  · by_cases hb : b = a
    · subst hb
      rw [upd_same] at e
      cases e
      exact p3
    · rw [upd_ne hb] at e
      exact h.g b x e
  · obtain ⟨q1, q2, o', q3, q4⟩ := h.own b oc (List.mem_cons_of_mem _ m)
    have ne : b ≠ a := fun z => nd.1 (z ▸ List.mem_map.mpr ⟨_, m, rfl⟩)
    exact ⟨q1, by rw [upd_ne ne]; exact q2, o', q3, ocR_mono (same_new p2) q4⟩
  · exact Dt.lst upd_same (dpA_mono (same_new p2) ds xs (paired_d p4))
end

/-! ### the judgements -/
section
variable (X : Cx)
def WE (e : Expr) : TE := fun σ H Q => ∀ (pins : List (Addr × Obj)) (s : Shared), Inv X pins σ H s → wpAny (model X.prog X.w) X.A (eval e X.env) (EP X pins σ Q) X.xe s
def WT (e : Expr) : TT := fun σ H Q => ∀ (pins : List (Addr × Obj)) (s : Shared), Inv X pins σ H s → wpAny (model X.prog X.w) X.A (isTrue e X.env (eval e X.env)) (TP X pins σ Q) X.xe s
def WA (es : List Expr) : TA := fun σ H Q => ∀ (pos : Pos) (pins : List (Addr × Obj)) (s : Shared), Inv X pins σ H s → wpAny (model X.prog X.w) X.A (spliced (backTo pos (starEach es X.env))) (AP X pins σ Q) X.xe s
def WS (st : Stmt) : TS := fun D σ H => ∀ (pins : List (Addr × Obj)) (s : Shared), Inv X pins σ H s → wpAny (model X.prog X.w) X.A (exec st X.env) (SP X pins D) X.xe s
def WSs (st : List Stmt) : TS := fun D σ H => ∀ (pins : List (Addr × Obj)) (s : Shared), Inv X pins σ H s → wpAny (model X.prog X.w) X.A (execs st X.env) (SP X pins D) X.xe s
def WG (tg : Expr) : TG := fun v σ H Q => ∀ (pins : List (Addr × Obj)) (s : Shared) (u : Value), Inv X pins σ H s → RelV v u →
  wpAny (model X.prog X.w) X.A (assign tg X.env u) (fun _ s' => ∃ σ' H', Inv X pins σ' H' s' ∧ Q σ' H') X.xe s
def WI (tg iter : Expr) : TI := fun σ H R => ∀ (pins : List (Addr × Obj)) (s : Shared), Inv X pins σ H s →
  wpAny (model X.prog X.w) X.A (eval iter X.env) (fun v s1 => wpAny (model X.prog X.w) X.A (pyIter v) (PIE X pins σ tg R) X.xe s1) X.xe s
end
section
variable {X : Cx}
theorem pe_we {e : Expr} : PE X e (WE X e) := ⟨fun pins s σ H Q I h => h pins s I⟩
theorem pt_wt {e : Expr} : PT X e (WT X e) := ⟨fun pins s σ H Q I h => h pins s I⟩
theorem pa_wa {es : List Expr} : PA X es (WA X es) := ⟨fun pos pins s σ H Q I h => h pos pins s I⟩
theorem ps_ws {st : Stmt} : PS X st (WS X st) := ⟨fun pins s σ H Q I h => h pins s I⟩
theorem pss_wss {st : List Stmt} : PSs X st (WSs X st) := ⟨fun pins s σ H Q I h => h pins s I⟩
theorem pg_wg {tg : Expr} : PG X tg (WG X tg) := ⟨fun pins s σ H v u Q I r h => h pins s u I r⟩
theorem pi_wi {tg iter : Expr} : PI X tg iter (WI X tg iter) := ⟨fun pins s σ H R I h => h pins s I⟩
theorem we_of {e : Expr} {t : TE} (p : PE X e t) {σ : St} {H : Hp} {Q : VK} (h : t σ H Q) : WE X e σ H Q := fun pins s I => p.run pins s σ H Q I h
theorem wt_of {e : Expr} {t : TT} (p : PT X e t) {σ : St} {H : Hp} {Q : Bool → Hp → Prop} (h : t σ H Q) : WT X e σ H Q := fun pins s I => p.run pins s σ H Q I h
theorem wa_of {es : List Expr} {t : TA} (p : PA X es t) {σ : St} {H : Hp} {Q : List V → Hp → Prop} (h : t σ H Q) : WA X es σ H Q := fun pos pins s I => p.run pos pins s σ H Q I h
theorem ws_of {st : Stmt} {t : TS} (p : PS X st t) {σ : St} {H : Hp} {D : Ends} (h : t D σ H) : WS X st D σ H := fun pins s I => p.run pins s σ H D I h
theorem wss_of {st : List Stmt} {t : TS} (p : PSs X st t) {σ : St} {H : Hp} {D : Ends} (h : t D σ H) : WSs X st D σ H := fun pins s I => p.run pins s σ H D I h
theorem wi_of {tg iter : Expr} {t : TI} (p : PI X tg iter t) {σ : St} {H : Hp} {R : It → Hp → Prop} (h : t σ H R) : WI X tg iter σ H R := fun pins s I => p.run pins s σ H R I h
theorem wg_of {tg : Expr} {t : TG} (p : PG X tg t) {v : V} {σ : St} {H : Hp} {Q : St → Hp → Prop} (h : t v σ H Q) : WG X tg v σ H Q := fun pins s u I r => p.run pins s σ H v u Q I r h
theorem WE.mono {e : Expr} {σ : St} {H : Hp} {Q Q' : VK} (h : WE X e σ H Q) (k : ∀ v H', Q v H' → Q' v H') : WE X e σ H Q' := fun pins s I =>
  thn (h pins s I) fun u s' ⟨v, H', J, r, q⟩ => ⟨v, H', J, r, k v H' q⟩
theorem WT.mono {e : Expr} {σ : St} {H : Hp} {Q Q' : Bool → Hp → Prop} (h : WT X e σ H Q) (k : ∀ v H', Q v H' → Q' v H') : WT X e σ H Q' := fun pins s I =>
  thn (h pins s I) fun u s' ⟨H', J, q⟩ => ⟨H', J, k u H' q⟩
theorem WA.mono {es : List Expr} {σ : St} {H : Hp} {Q Q' : List V → Hp → Prop} (h : WA X es σ H Q) (k : ∀ v H', Q v H' → Q' v H') : WA X es σ H Q' := fun pos pins s I =>
  thn (h pos pins s I) fun u s' ⟨v, H', J, r, q⟩ => ⟨v, H', J, r, k v H' q⟩
theorem sp_mono {pins : List (Addr × Obj)} {D D' : Ends} (k : ∀ σ H, D.nx σ H → D'.nx σ H) (kr : ∀ v H, D.rt v H → D'.rt v H) (kb : ∀ σ H, D.bk σ H → D'.bk σ H) (kc : ∀ σ H, D.ct σ H → D'.ct σ H) {f : Flow} {s : Shared} (h : SP X pins D f s) : SP X pins D' f s := by
  cases f with
  | next => obtain ⟨σ', H', J, q⟩ := h; exact ⟨σ', H', J, k _ _ q⟩
  | brk => obtain ⟨σ', H', J, q⟩ := h; exact ⟨σ', H', J, kb _ _ q⟩
  | cont => obtain ⟨σ', H', J, q⟩ := h; exact ⟨σ', H', J, kc _ _ q⟩
  | ret u => obtain ⟨v, σ', H', J, r, q⟩ := h; exact ⟨v, σ', H', J, r, kr _ _ q⟩
end

/-- behind an expression -/
def EB (K : PySem.W.Frag) (F G : Hp) (Φ : EV → Hs → Prop) : VK := fun v H' => ∃ G' ev hs', Grow F G G' ∧ HH K F G' H' hs' ∧ Rv K G' v ev ∧ Φ ev hs'
def TB (K : PySem.W.Frag) (F G : Hp) (Φ : Bool → Hs → Prop) : Bool → Hp → Prop := fun b H' => ∃ G' hs', Grow F G G' ∧ HH K F G' H' hs' ∧ Φ b hs'
def AB (K : PySem.W.Frag) (F G : Hp) (Φ : List EV → Hs → Prop) : List V → Hp → Prop := fun vs H' => ∃ G' evs hs', Grow F G G' ∧ HH K F G' H' hs' ∧ Paired (Rv K G') vs evs ∧ Φ evs hs'
structure GE (X : Cx) (e : Expr) (ss : Sl) (hs : Hs) (Φ : EV → Hs → Prop) : Prop where
  run : ∀ F G H σ, HH X.K F G H hs → SL X.K G σ ss → WE X e σ H (EB X.K F G Φ)
structure GT (X : Cx) (e : Expr) (ss : Sl) (hs : Hs) (Φ : Bool → Hs → Prop) : Prop where
  run : ∀ F G H σ, HH X.K F G H hs → SL X.K G σ ss → WT X e σ H (TB X.K F G Φ)
structure GA (X : Cx) (es : List Expr) (ss : Sl) (hs : Hs) (Φ : List EV → Hs → Prop) : Prop where
  run : ∀ F G H σ, HH X.K F G H hs → SL X.K G σ ss → WA X es σ H (AB X.K F G Φ)
/-- what is wanted behind a statement -/
structure Out where
  nx : Sl → Hs → Prop
  rt : EV → Hs → Prop
  bk : Sl → Hs → Prop := fun _ _ => False
  ct : Sl → Hs → Prop := fun _ _ => False
def SB (K : PySem.W.Frag) (F G : Hp) (n : Nat) (Φ : Sl → Hs → Prop) : St → Hp → Prop := fun σ' H' => ∃ G' ss' hs', Grow F G G' ∧ HH K F G' H' hs' ∧ SL K G' σ' ss' ∧ ss'.length ≤ n ∧ Φ ss' hs'
abbrev Out.ends (D : Out) (K : PySem.W.Frag) (F G : Hp) (n : Nat) : Ends := ⟨SB K F G n D.nx, EB K F G D.rt, SB K F G n D.bk, SB K F G n D.ct⟩
structure GS (X : Cx) (st : Stmt) (ss : Sl) (hs : Hs) (D : Out) : Prop where
  run : ∀ F G H σ, HH X.K F G H hs → SL X.K G σ ss → ss.length ≤ X.N.length → WS X st (D.ends X.K F G X.N.length) σ H
structure GSs (X : Cx) (st : List Stmt) (ss : Sl) (hs : Hs) (D : Out) : Prop where
  run : ∀ F G H σ, HH X.K F G H hs → SL X.K G σ ss → ss.length ≤ X.N.length → WSs X st (D.ends X.K F G X.N.length) σ H
/-- a target is given a value; it changes no slots but those at vs -/
def SV (K : PySem.W.Frag) (F G : Hp) (n : Nat) (vs : List Nat) (σ : St) (Φ : Sl → Hs → Prop) : St → Hp → Prop := fun σ' H' => SB K F G n Φ σ' H' ∧ σ'.length = σ.length ∧ ∀ j, j ∉ vs → σ'[j]? = σ[j]?
structure GG (X : Cx) (tg : Expr) (ev : EV) (ss : Sl) (hs : Hs) (vs : List Nat) (Φ : Sl → Hs → Prop) : Prop where
  run : ∀ F G H σ v, HH X.K F G H hs → SL X.K G σ ss → ss.length ≤ X.N.length → Rv X.K G v ev → WG X tg v σ H (SV X.K F G X.N.length vs σ Φ)
end Asl

/-! Asl: expressions. -/
namespace Asl
open PySem PySem.Spec L2
open PyProof.Rows hiding St
section
variable {X : Cx} {e a b c : Expr} {es : List Expr} {ss : Sl} {hs : Hs} {pos : Pos}

/-- an expression that gives data and changes nothing -/
abbrev GP (X : Cx) (e : Expr) (ss : Sl) (hs : Hs) (d : PyData) : Prop := GE X e ss hs fun ev h => ev = .d d ∧ h = hs
abbrev GTP (X : Cx) (e : Expr) (ss : Sl) (hs : Hs) (b : Bool) : Prop := GT X e ss hs fun c h => c = b ∧ h = hs
abbrev GAP (X : Cx) (es : List Expr) (ss : Sl) (hs : Hs) (ds : List PyData) : Prop := GA X es ss hs fun evs h => evs = ds.map .d ∧ h = hs

theorem GE.mono {Φ Ψ : EV → Hs → Prop} (h : GE X e ss hs Φ) (k : ∀ ev h, Φ ev h → Ψ ev h) : GE X e ss hs Ψ := ⟨fun F G H σ hh sl =>
  (h.run F G H σ hh sl).mono fun v H' ⟨G', ev, hs', q1, q2, q3, q4⟩ => ⟨G', ev, hs', q1, q2, q3, k _ _ q4⟩⟩
theorem GT.mono {Φ Ψ : Bool → Hs → Prop} (h : GT X e ss hs Φ) (k : ∀ ev h, Φ ev h → Ψ ev h) : GT X e ss hs Ψ := ⟨fun F G H σ hh sl =>
  (h.run F G H σ hh sl).mono fun v H' ⟨G', hs', q1, q2, q4⟩ => ⟨G', hs', q1, q2, k _ _ q4⟩⟩
theorem GA.mono {Φ Ψ : List EV → Hs → Prop} (h : GA X es ss hs Φ) (k : ∀ ev h, Φ ev h → Ψ ev h) : GA X es ss hs Ψ := ⟨fun F G H σ hh sl =>
  (h.run F G H σ hh sl).mono fun v H' ⟨G', ev, hs', q1, q2, q3, q4⟩ => ⟨G', ev, hs', q1, q2, q3, k _ _ q4⟩⟩
/-- from pure data on -/
theorem GE.of {d : PyData} {Φ : EV → Hs → Prop} (h : GP X e ss hs d) (k : Φ (.d d) hs) : GE X e ss hs Φ := h.mono fun _ _ ⟨e1, e2⟩ => by rw [e1, e2]; exact k
theorem GT.of {d : Bool} {Φ : Bool → Hs → Prop} (h : GTP X e ss hs d) (k : Φ d hs) : GT X e ss hs Φ := h.mono fun _ _ ⟨e1, e2⟩ => by rw [e1, e2]; exact k
theorem GA.of {ds : List PyData} {Φ : List EV → Hs → Prop} (h : GAP X es ss hs ds) (k : Φ (ds.map .d) hs) : GA X es ss hs Φ := h.mono fun _ _ ⟨e1, e2⟩ => by rw [e1, e2]; exact k
theorem GE.is {d d' : PyData} (h : GP X e ss hs d) (q : d = d') : GP X e ss hs d' := q ▸ h
theorem GT.is {d d' : Bool} (h : GTP X e ss hs d) (q : d = d') : GTP X e ss hs d' := q ▸ h

/-! ### names, constants -/
theorem ge_var {x : Str} {ev : EV} {Φ : EV → Hs → Prop} (i : Nat) (h : ss[i]? = some (some ev)) (k : Φ ev hs) (hN : X.N[i]? = some x := by rfl) (hv : Vis X.env.scope x := by first | exact Or.inl rfl | exact Or.inr (Or.inl rfl) | exact Or.inr (Or.inr rfl))
    (hd : (x == ("__debug__" : Str)) = false := by decide) (hcd : (x == ("__classdict__" : Str)) = false := by decide) : GE X (.Name x pos) ss hs Φ := ⟨fun F G H σ hh sl => by
  obtain ⟨v, e1, r⟩ := sl i ev h
  exact we_of (pe_var hN hv hd hcd) ⟨v, e1, G, ev, hs, Grow.refl F G, hh, r, k⟩⟩
theorem ge_int {i : Int} {j} {Φ : EV → Hs → Prop} (k : Φ (.d (.int i)) hs) : GE X (.Constant (.int i) j pos) ss hs Φ := ⟨fun F G H σ hh sl => we_of pe_int ⟨G, .d (.int i), hs, Grow.refl F G, hh, Dt.int i, k⟩⟩
theorem ge_bl {i : Bool} {j} {Φ : EV → Hs → Prop} (k : Φ (.d (.bool i)) hs) : GE X (.Constant (.bool i) j pos) ss hs Φ := ⟨fun F G H σ hh sl => we_of pe_bl ⟨G, .d (.bool i), hs, Grow.refl F G, hh, Dt.bl i, k⟩⟩
theorem ge_str {i : Str} {j} {Φ : EV → Hs → Prop} (k : Φ (.d (.str i)) hs) : GE X (.Constant (.str i) j pos) ss hs Φ := ⟨fun F G H σ hh sl => we_of pe_str ⟨G, .d (.str i), hs, Grow.refl F G, hh, Dt.str i, k⟩⟩
theorem ge_non {j} {Φ : EV → Hs → Prop} (k : Φ (.d .none) hs) : GE X (.Constant .none j pos) ss hs Φ := ⟨fun F G H σ hh sl => we_of pe_non ⟨G, .d .none, hs, Grow.refl F G, hh, Dt.non, k⟩⟩
theorem gp_var {x : Str} {d : PyData} (i : Nat) (h : ss[i]? = some (some (.d d))) (hN : X.N[i]? = some x := by rfl) (hv : Vis X.env.scope x := by first | exact Or.inl rfl | exact Or.inr (Or.inl rfl) | exact Or.inr (Or.inr rfl))
    (hd : (x == ("__debug__" : Str)) = false := by decide) (hcd : (x == ("__classdict__" : Str)) = false := by decide) : GP X (.Name x pos) ss hs d := ge_var i h ⟨rfl, rfl⟩ hN hv hd hcd
theorem gp_int {i : Int} {j} : GP X (.Constant (.int i) j pos) ss hs (.int i) := ge_int ⟨rfl, rfl⟩
theorem gp_bl {i : Bool} {j} : GP X (.Constant (.bool i) j pos) ss hs (.bool i) := ge_bl ⟨rfl, rfl⟩
theorem gp_str {i : Str} {j} : GP X (.Constant (.str i) j pos) ss hs (.str i) := ge_str ⟨rfl, rfl⟩
theorem gp_non {j} : GP X (.Constant .none j pos) ss hs .none := ge_non ⟨rfl, rfl⟩

/-! ### arguments, displays -/
theorem ga_nil {Φ : List EV → Hs → Prop} (k : Φ [] hs) : GA X [] ss hs Φ := ⟨fun F G H σ hh sl => wa_of pa_nil ⟨G, [], hs, Grow.refl F G, hh, .nil, k⟩⟩
theorem ga_cons {Φ : List EV → Hs → Prop} (h : GE X e ss hs fun ev hs1 => GA X es ss hs1 fun evs hs2 => Φ (ev :: evs) hs2)
    (hst : starEach (e :: es) X.env = (false, eval e X.env) :: starEach es X.env := by rfl) : GA X (e :: es) ss hs Φ := ⟨fun F G H σ hh sl =>
  wa_of (pa_cons pe_we pa_wa hst) ((h.run F G H σ hh sl).mono fun v H1 ⟨G1, ev, hs1, g1, hh1, r1, q⟩ => (q.run F G1 H1 σ hh1 (sl.mono g1.up)).mono fun vs H2 ⟨G2, evs, hs2, g2, hh2, r2, q2⟩ =>
    ⟨G2, ev :: evs, hs2, g1.trans g2, hh2, .cons (rv_mono g2.up r1) r2, q2⟩)⟩
theorem gap_nil : GAP X [] ss hs [] := ga_nil ⟨rfl, rfl⟩
theorem gap_cons {d : PyData} {ds : List PyData} (h : GP X e ss hs d) (h2 : GAP X es ss hs ds) (hst : starEach (e :: es) X.env = (false, eval e X.env) :: starEach es X.env := by rfl) : GAP X (e :: es) ss hs (d :: ds) :=
  ga_cons (h.of (h2.of ⟨rfl, rfl⟩)) hst
theorem ge_tup {n} {Φ : EV → Hs → Prop} (h : GA X es ss hs fun evs hs1 => ∃ ds, evs = ds.map .d ∧ ds.length ≤ sizeLine ∧ Φ (.d (.tuple ds)) hs1) : GE X (.Tuple es n pos) ss hs Φ := ⟨fun F G H σ hh sl =>
  we_of (pe_tup pa_wa) ((h.run F G H σ hh sl).mono fun vs H1 ⟨G1, evs, hs1, g1, hh1, r1, ds, e1, hz, q⟩ => by
    subst e1
    have r1 := paired_d r1
    refine ⟨by rw [dpA_len r1]; exact hz, fun p np => ?_⟩
    obtain ⟨g2, hh2⟩ := hh1.data (o := .tup vs) np
    exact ⟨_, .d (.tuple ds), hs1, g1.trans g2, hh2, Dt.tup (.inl (.inl upd_same)) (dpA_mono g2.up _ _ r1), q⟩)⟩
theorem gp_tup {n} {ds : List PyData} (h : GAP X es ss hs ds) (hz : ds.length ≤ sizeLine := by exact Nat.le_of_ble_eq_true rfl) : GP X (.Tuple es n pos) ss hs (.tuple ds) := ge_tup (h.of ⟨ds, rfl, hz, rfl, rfl⟩)
/-- a new list that may change -/
theorem ge_new {Φ : EV → Hs → Prop} (h : GA X es ss hs fun evs hs1 => evs.length ≤ sizeLine ∧ ∀ a, Φ (.r a) ((a, .lst evs) :: hs1)) : GE X (.List es pos) ss hs Φ := ⟨fun F G H σ hh sl =>
  we_of (pe_lst pa_wa) ((h.run F G H σ hh sl).mono fun vs H1 ⟨G1, evs, hs1, g1, hh1, r1, hz, q⟩ => by
    refine ⟨by rw [Paired.length r1]; exact hz, fun p np => ?_⟩
    exact ⟨G1, .r p, (p, .lst evs) :: hs1, g1, hh1.fresh np ⟨vs, rfl, r1⟩, rfl, q p⟩)⟩
/-- a new list that nobody changes -/
theorem ge_lst {Φ : EV → Hs → Prop} (h : GA X es ss hs fun evs hs1 => ∃ ds, evs = ds.map .d ∧ ds.length ≤ sizeLine ∧ Φ (.d (.list ds)) hs1) : GE X (.List es pos) ss hs Φ := ⟨fun F G H σ hh sl =>
  we_of (pe_lst pa_wa) ((h.run F G H σ hh sl).mono fun vs H1 ⟨G1, evs, hs1, g1, hh1, r1, ds, e1, hz, q⟩ => by
    subst e1
    have r1 := paired_d r1
    refine ⟨by rw [dpA_len r1]; exact hz, fun p np => ?_⟩
    obtain ⟨g2, hh2⟩ := hh1.data (o := .lst vs) np
    exact ⟨_, .d (.list ds), hs1, g1.trans g2, hh2, Dt.lst upd_same (dpA_mono g2.up _ _ r1), q⟩)⟩
theorem gp_lst {ds : List PyData} (h : GAP X es ss hs ds) (hz : ds.length ≤ sizeLine := by exact Nat.le_of_ble_eq_true rfl) : GP X (.List es pos) ss hs (.list ds) := ge_lst (h.of ⟨ds, rfl, hz, rfl, rfl⟩)

/-! ### operators -/
/-- a rule by values, on data: what it gives -/
def RD (K : PySem.W.Frag) (r : R2) (x y d : PyData) : Prop := ∀ (F G H : Hp) (hs : Hs) (v w : V) (Q : VK), HH K F G H hs → Dt K G v x → Dt K G w y →
  (∀ z G' H', Grow F G G' → HH K F G' H' hs → Dt K G' z d → Q z H') → r v w H Q
structure BinD (X : Cx) (op : Operator) (x y d : PyData) : Prop where ex : ∃ r, OpR X (binaryOp op) r ∧ RD X.K r x y d
structure CmpD (X : Cx) (op : CmpOp) (x y d : PyData) : Prop where ex : ∃ r, OpR X (compareOp op) r ∧ RD X.K r x y d
structure SubD (X : Cx) (x y d : PyData) : Prop where ex : ∃ r, IxR X r ∧ RD X.K r x y d
theorem two {t : R2} {d1 d2 d : PyData} {F G : Hp} {Φ : EV → Hs → Prop} (rd : RD X.K t d1 d2 d) {hs2 : Hs} {G2 : Hp} (k : Φ (.d d) hs2) {v w : V} {H2 : Hp} (g : Grow F G G2) (hh : HH X.K F G2 H2 hs2) (r1 : Dt X.K G2 v d1) (r2 : Dt X.K G2 w d2) : t v w H2 (EB X.K F G Φ) :=
  rd F G2 H2 hs2 v w _ hh r1 r2 fun z G' H' g' hh' r => ⟨G', .d d, hs2, g.trans g', hh', r, k⟩
theorem ge_two {t : R2} {tgt : Expr} (hp : ∀ ta tb, PE X a ta → PE X b tb → PE X tgt (tOp t ta tb)) {Φ : EV → Hs → Prop}
    (h : GE X a ss hs fun e1 hs1 => ∃ d1, e1 = .d d1 ∧ GE X b ss hs1 fun e2 hs2 => ∃ d2 d, e2 = .d d2 ∧ RD X.K t d1 d2 d ∧ Φ (.d d) hs2) : GE X tgt ss hs Φ := ⟨fun F G H σ hh sl =>
  we_of (hp _ _ pe_we pe_we) ((h.run F G H σ hh sl).mono fun v H1 ⟨G1, ev, hs1, g1, hh1, r1, d1, e1, q⟩ => (q.run F G1 H1 σ hh1 (sl.mono g1.up)).mono fun w H2 ⟨G2, ev2, hs2, g2, hh2, r2, d2, d, e2, rd, k⟩ => by
    subst e1
    subst e2
    exact two rd k (g1.trans g2) hh2 (rv_mono g2.up r1) r2)⟩
theorem gp_bin {op : Operator} {d1 d2 d : PyData} (h1 : GP X a ss hs d1) (h2 : GP X b ss hs d2) (h : BinD X op d1 d2 d) : GP X (.BinOp a op b pos) ss hs d := by
  obtain ⟨r, ho, rd⟩ := h.ex
  exact ge_two (fun ta tb pa pb => pe_op ho pa pb) (h1.of ⟨d1, rfl, h2.of ⟨d2, d, rfl, rd, rfl, rfl⟩⟩)
theorem gp_cmp {op : CmpOp} {d1 d2 d : PyData} (h1 : GP X a ss hs d1) (h2 : GP X b ss hs d2) (h : CmpD X op d1 d2 d) (hm : behindInMarks op b = false := by first | exact nobehind _ (by decide) (by decide) | rfl) : GP X (.Compare a [op] [b] pos) ss hs d := by
  obtain ⟨r, ho, rd⟩ := h.ex
  exact ge_two (fun ta tb pa pb => pe_cmpR ho pa pb hm) (h1.of ⟨d1, rfl, h2.of ⟨d2, d, rfl, rd, rfl, rfl⟩⟩)
theorem gp_ix {d1 d2 d : PyData} (h1 : GP X a ss hs d1) (h2 : GP X b ss hs d2) (h : SubD X d1 d2 d) (hs' : PlainIx b := by exact fun _ _ => rfl) : GP X (.Subscript a b pos) ss hs d := by
  obtain ⟨r, ho, rd⟩ := h.ex
  exact ge_two (fun ta tb pa pb => pe_ix ho pa pb hs') (h1.of ⟨d1, rfl, h2.of ⟨d2, d, rfl, rd, rfl, rfl⟩⟩)
theorem ge_bin {op : Operator} {Φ : EV → Hs → Prop} (h : GE X a ss hs fun e1 hs1 => ∃ d1, e1 = .d d1 ∧ GE X b ss hs1 fun e2 hs2 => ∃ d2 d, e2 = .d d2 ∧ BinD X op d1 d2 d ∧ Φ (.d d) hs2) : GE X (.BinOp a op b pos) ss hs Φ := by
  let R : R2 := fun x y H Q => ∃ r, OpR X (binaryOp op) r ∧ r x y H Q
  have hR : OpR X (binaryOp op) R := fun pins s σ H x y v u Q I rx ry ⟨r, ho, q⟩ => ho pins s σ H x y v u Q I rx ry q
  refine ge_two (t := R) (fun ta tb pa pb => pe_op hR pa pb) (h.mono fun e1 hs1 ⟨d1, q1, q2⟩ => ⟨d1, q1, q2.mono fun e2 hs2 ⟨d2, d, z1, z2, z3⟩ => ⟨d2, d, z1, ?_, z3⟩⟩)
  obtain ⟨r, ho, rd⟩ := z2.ex
  exact fun F G H hs v w Q hh x y k => ⟨r, ho, rd F G H hs v w Q hh x y k⟩
theorem ge_cmp {op : CmpOp} {Φ : EV → Hs → Prop} (h : GE X a ss hs fun e1 hs1 => ∃ d1, e1 = .d d1 ∧ GE X b ss hs1 fun e2 hs2 => ∃ d2 d, e2 = .d d2 ∧ CmpD X op d1 d2 d ∧ Φ (.d d) hs2) (hm : behindInMarks op b = false := by first | exact nobehind _ (by decide) (by decide) | rfl) : GE X (.Compare a [op] [b] pos) ss hs Φ := by
  let R : R2 := fun x y H Q => ∃ r, OpR X (compareOp op) r ∧ r x y H Q
  have hR : OpR X (compareOp op) R := fun pins s σ H x y v u Q I rx ry ⟨r, ho, q⟩ => ho pins s σ H x y v u Q I rx ry q
  refine ge_two (t := R) (fun ta tb pa pb => pe_cmpR hR pa pb hm) (h.mono fun e1 hs1 ⟨d1, q1, q2⟩ => ⟨d1, q1, q2.mono fun e2 hs2 ⟨d2, d, z1, z2, z3⟩ => ⟨d2, d, z1, ?_, z3⟩⟩)
  obtain ⟨r, ho, rd⟩ := z2.ex
  exact fun F G H hs v w Q hh x y k => ⟨r, ho, rd F G H hs v w Q hh x y k⟩
theorem ge_ix {Φ : EV → Hs → Prop} (h : GE X a ss hs fun e1 hs1 => ∃ d1, e1 = .d d1 ∧ GE X b ss hs1 fun e2 hs2 => ∃ d2 d, e2 = .d d2 ∧ SubD X d1 d2 d ∧ Φ (.d d) hs2) (hs' : PlainIx b := by exact fun _ _ => rfl) : GE X (.Subscript a b pos) ss hs Φ := by
  let R : R2 := fun x y H Q => ∃ r, IxR X r ∧ r x y H Q
  have hR : IxR X R := fun value slice pins s σ H x y v u Q I rx ry ⟨r, ho, q⟩ hz => ho value slice pins s σ H x y v u Q I rx ry q hz
  refine ge_two (t := R) (fun ta tb pa pb => pe_ix hR pa pb hs') (h.mono fun e1 hs1 ⟨d1, q1, q2⟩ => ⟨d1, q1, q2.mono fun e2 hs2 ⟨d2, d, z1, z2, z3⟩ => ⟨d2, d, z1, ?_, z3⟩⟩)
  obtain ⟨r, ho, rd⟩ := z2.ex
  exact fun F G H hs v w Q hh x y k => ⟨r, ho, rd F G H hs v w Q hh x y k⟩

/-! ints -/
theorem rd_I0 {K} {g : Int → Int → V} {f : Int → Int → PyData} (h : ∀ G i j, Dt K G (g i j) (f i j)) {i j : Int} : RD K (rI0 g) (.int i) (.int j) (f i j) := fun F G H hs v w Q hh r1 r2 k => by
  cases r1
  cases r2
  exact ⟨i, j, rfl, rfl, k _ G H (Grow.refl F G) hh (h G i j)⟩
theorem rd_I {K} {C : Int → Int → Prop} {g : Int → Int → V} {f : Int → Int → PyData} (h : ∀ G i j, Dt K G (g i j) (f i j)) {i j : Int} (hc : C i j) : RD K (rI C g) (.int i) (.int j) (f i j) := fun F G H hs v w Q hh r1 r2 k => by
  cases r1
  cases r2
  exact ⟨i, j, rfl, rfl, hc, k _ G H (Grow.refl F G) hh (h G i j)⟩
theorem b_add {i j : Int} : BinD X .Add (.int i) (.int j) (.int (i + j)) := ⟨_, op_add, rd_I0 (f := fun i j => .int (i + j)) fun _ _ _ => .int _⟩
theorem b_sub {i j : Int} : BinD X .Sub (.int i) (.int j) (.int (i - j)) := ⟨_, op_sub, rd_I0 (f := fun i j => .int (i - j)) fun _ _ _ => .int _⟩
theorem b_mul {i j : Int} (h : CMul i j) : BinD X .Mult (.int i) (.int j) (.int (i * j)) := ⟨_, op_mul, rd_I (f := fun i j => .int (i * j)) (fun _ _ _ => .int _) h⟩
theorem b_fdiv {i j : Int} (h1 : 0 < j) (h2 : j < 1073741824) : BinD X .FloorDiv (.int i) (.int j) (.int (i / j)) := ⟨_, op_fdiv, rd_I (f := fun i j => .int (i / j)) (fun _ _ _ => .int _) ⟨h1, h2⟩⟩
theorem b_mod {i j : Int} (h1 : 0 < j) : BinD X .Mod (.int i) (.int j) (.int (i % j)) := ⟨_, op_mod, rd_I (f := fun i j => .int (i % j)) (fun _ _ _ => .int _) h1⟩
theorem b_pow {i j : Int} (h : CPow i j) : BinD X .Pow (.int i) (.int j) (.int (i ^ j.toNat)) := ⟨_, op_pow, rd_I (f := fun i j => .int (i ^ j.toNat)) (fun _ _ _ => .int _) h⟩
theorem b_shl {i j : Int} (h : CPow i j) : BinD X .LShift (.int i) (.int j) (.int (i * 2 ^ j.toNat)) := ⟨_, op_shl, rd_I (f := fun i j => .int (i * 2 ^ j.toNat)) (fun _ _ _ => .int _) h⟩
theorem c_lt {i j : Int} : CmpD X .Lt (.int i) (.int j) (.bool (decide (i < j))) := ⟨_, op_lt, rd_I0 (f := fun i j => .bool (decide (i < j))) fun _ _ _ => .bl _⟩
theorem c_le {i j : Int} : CmpD X .LtE (.int i) (.int j) (.bool (decide (i ≤ j))) := ⟨_, op_le, rd_I0 (f := fun i j => .bool (decide (i ≤ j))) fun _ _ _ => .bl _⟩
theorem c_gt {i j : Int} : CmpD X .Gt (.int i) (.int j) (.bool (decide (j < i))) := ⟨_, op_gt, rd_I0 (f := fun i j => .bool (decide (j < i))) fun _ _ _ => .bl _⟩
theorem c_ge {i j : Int} : CmpD X .GtE (.int i) (.int j) (.bool (decide (j ≤ i))) := ⟨_, op_ge, rd_I0 (f := fun i j => .bool (decide (j ≤ i))) fun _ _ _ => .bl _⟩
/-! tuples, lists put together -/
theorem b_catT {xs ys : List PyData} (h : xs.length + ys.length ≤ sizeLine) : BinD X .Add (.tuple xs) (.tuple ys) (.tuple (xs ++ ys)) := ⟨_, op_catA, fun F G H hs v w Q hh r1 r2 k => by
  cases r1 with
  | @tup a us _ s1 a1 =>
    cases r2 with
    | @tup b ws _ s2 a2 =>
      have l1 := dpA_len a1
      have l2 := dpA_len a2
      refine ⟨a, b, us, ws, rfl, rfl, sqT_mono hh.g s1, sqT_mono hh.g s2, by omega, fun z => ?_, fun z z2 => ?_, fun z z2 p np => ?_⟩
      · have : xs = [] := by cases xs with | nil => rfl | cons _ _ => rw [z] at l1; cases l1
        subst this
        exact k _ G H (Grow.refl F G) hh (.tup s2 a2)
      · have : ys = [] := by cases ys with | nil => rfl | cons _ _ => rw [z2] at l2; cases l2
        subst this
        rw [List.append_nil] at k
        exact k _ G H (Grow.refl F G) hh (.tup s1 a1)
      · obtain ⟨g2, hh2⟩ := hh.data (o := .tup (us ++ ws)) np
        exact k _ _ _ g2 hh2 (.tup (.inl (.inl upd_same)) (dpA_mono g2.up _ _ (dpA_app a1 a2)))⟩
theorem b_catL {xs ys : List PyData} (h : xs.length + ys.length ≤ sizeLine) : BinD X .Add (.list xs) (.list ys) (.list (xs ++ ys)) := ⟨_, op_cat, fun F G H hs v w Q hh r1 r2 k => by
  cases r1 with
  | @lst a us _ s1 a1 =>
    cases r2 with
    | @lst b ws _ s2 a2 =>
      have l1 := dpA_len a1
      have l2 := dpA_len a2
      refine ⟨a, b, us, ws, rfl, rfl, hh.g _ _ s1, hh.g _ _ s2, by omega, fun p np => ?_⟩
      obtain ⟨g2, hh2⟩ := hh.data (o := .lst (us ++ ws)) np
      exact k _ _ _ g2 hh2 (.lst upd_same (dpA_mono g2.up _ _ (dpA_app a1 a2)))⟩
/-! == of data -/
theorem c_eqD {x y : PyData} (hu : X.A.units + 64 < cLine) (h1 : SeqAt.shaped x = true) (h2 : SeqAt.shaped y = true) : CmpD X .Eq x y (.bool (PyData.eqv x y)) := ⟨_, op_eqD hu, fun F G H hs v w Q hh r1 r2 k =>
  ⟨x, y, Dt.dp _ _ (dp_mono hh.g _ _ r1), Dt.dp _ _ (dp_mono hh.g _ _ r2), h1, h2, k _ G H (Grow.refl F G) hh (.bl _)⟩⟩
theorem c_neD {x y : PyData} (hu : X.A.units + 64 < cLine) (h1 : SeqAt.shaped x = true) (h2 : SeqAt.shaped y = true) : CmpD X .NotEq x y (.bool (!PyData.eqv x y)) := ⟨_, op_neD hu, fun F G H hs v w Q hh r1 r2 k =>
  ⟨x, y, Dt.dp _ _ (dp_mono hh.g _ _ r1), Dt.dp _ _ (dp_mono hh.g _ _ r2), h1, h2, k _ G H (Grow.refl F G) hh (.bl _)⟩⟩
/-! is None, is True -/
def isN : PyData → Bool | .none => true | _ => false
theorem dp_non {K G v} {d : PyData} (h : Dt K G v d) : decide (v = .non) = isN d := by
  cases h <;> rfl
theorem c_isN {x : PyData} : CmpD X .Is x .none (.bool (isN x)) := ⟨_, op_isN, fun F G H hs v w Q hh r1 r2 k => by
  have e := dp_non r1
  cases r2
  refine ⟨rfl, ?_⟩
  rw [e]
  exact k _ G H (Grow.refl F G) hh (.bl _)⟩
theorem c_notN {x : PyData} : CmpD X .IsNot x .none (.bool (!isN x)) := ⟨_, op_notN, fun F G H hs v w Q hh r1 r2 k => by
  have e := dp_non r1
  cases r2
  refine ⟨rfl, ?_⟩
  rw [e]
  exact k _ G H (Grow.refl F G) hh (.bl _)⟩
theorem c_isB {x y : Bool} : CmpD X .Is (.bool x) (.bool y) (.bool (decide (x = y))) := ⟨_, op_is_bl, fun F G H hs v w Q hh r1 r2 k => by
  cases r1
  cases r2
  exact ⟨x, y, rfl, rfl, k _ G H (Grow.refl F G) hh (.bl _)⟩⟩
theorem c_notB {x y : Bool} : CmpD X .IsNot (.bool x) (.bool y) (.bool (!decide (x = y))) := ⟨_, op_isnot_bl, fun F G H hs v w Q hh r1 r2 k => by
  cases r1
  cases r2
  exact ⟨x, y, rfl, rfl, k _ G H (Grow.refl F G) hh (.bl _)⟩⟩
/-! subscripts -/
theorem atI_dp {K G} {vs : List V} {ds : List PyData} {i : Int} {d : PyData} (h : DtAll K G vs ds) (e : atI ds i = some d) : ∃ v, atI vs i = some v ∧ Dt K G v d := by
  unfold atI at e ⊢
  rw [dpA_len h]
  cases q : ixN ds.length i with
  | none => rw [q] at e; cases e
  | some j =>
    rw [q] at e
    exact dpA_get h (by simpa using e)
theorem s_tup {xs : List PyData} {i : Int} {d : PyData} (h : atI xs i = some d) : SubD X (.tuple xs) (.int i) d := ⟨_, ix_tup, fun F G H hs v w Q hh r1 r2 k => by
  cases r2
  cases r1 with
  | @tup a us _ s1 a1 =>
    obtain ⟨z, e1, r⟩ := atI_dp a1 h
    exact ⟨a, us, i, z, rfl, rfl, sqT_mono hh.g s1, e1, k _ G H (Grow.refl F G) hh r⟩⟩
theorem s_lst {xs : List PyData} {i : Int} {d : PyData} (h : atI xs i = some d) : SubD X (.list xs) (.int i) d := ⟨_, ix_list, fun F G H hs v w Q hh r1 r2 k => by
  cases r2
  cases r1 with
  | @lst a us _ s1 a1 =>
    obtain ⟨z, e1, r⟩ := atI_dp a1 h
    exact ⟨a, us, i, z, rfl, rfl, SqL.of (hh.g _ _ s1), e1, k _ G H (Grow.refl F G) hh r⟩⟩
theorem at_get {xs : List PyData} {i : Int} {d : PyData} (h0 : 0 ≤ i) (h : xs[i.toNat]? = some d) : atI xs i = some d := by
  obtain ⟨n, rfl⟩ := Int.eq_ofNat_of_zero_le h0
  exact atI_nat h
end
end Asl

/-! Asl: tests, statements, calls, defs. -/
namespace Asl
open PySem PySem.Spec L2
open PyProof.Rows hiding St

/-! ### parts of the symbolic heap -/
/-- at a stands oc; with oc' in its place: hs' -/
inductive Put : Hs → Addr → OC → OC → Hs → Prop
  | here {hs : Hs} {a : Addr} {oc oc' : OC} : Put ((a, oc) :: hs) a oc oc' ((a, oc') :: hs)
  | there {p : Addr × OC} {hs hs' : Hs} {a : Addr} {oc oc' : OC} (h : Put hs a oc oc' hs') : Put (p :: hs) a oc oc' (p :: hs')
/-- at a stands oc; without it: hs' -/
inductive Cut : Hs → Addr → OC → Hs → Prop
  | here {hs : Hs} {a : Addr} {oc : OC} : Cut ((a, oc) :: hs) a oc hs
  | there {p : Addr × OC} {hs hs' : Hs} {a : Addr} {oc : OC} (h : Cut hs a oc hs') : Cut (p :: hs) a oc (p :: hs')
theorem Put.mem {hs hs' : Hs} {a : Addr} {oc oc' : OC} (h : Put hs a oc oc' hs') : (a, oc) ∈ hs := by
  induction h with
  | here => exact List.mem_cons_self
  | there _ ih => exact List.mem_cons_of_mem _ ih
theorem Put.keys {hs hs' : Hs} {a : Addr} {oc oc' : OC} (h : Put hs a oc oc' hs') : hs'.map (·.1) = hs.map (·.1) := by
  induction h with
  | here => rfl
  | there _ ih => rw [List.map_cons, List.map_cons, ih]
theorem Put.out {hs hs' : Hs} {a : Addr} {oc oc' : OC} (h : Put hs a oc oc' hs') (nd : (hs.map (·.1)).Nodup) : ∀ b u, (b, u) ∈ hs' → (b = a ∧ u = oc') ∨ (b ≠ a ∧ (b, u) ∈ hs) := by
  induction h with
  | @here hs a oc oc' =>
    intro b u m
    rw [List.map_cons, List.nodup_cons] at nd
    rcases List.mem_cons.mp m with e | m
    · cases e
      exact .inl ⟨rfl, rfl⟩
    · exact .inr ⟨fun z => nd.1 (z ▸ List.mem_map.mpr ⟨_, m, rfl⟩), List.mem_cons_of_mem _ m⟩
  | @there p hs hs' a oc oc' h ih =>
    intro b u m
    rw [List.map_cons, List.nodup_cons] at nd
    rcases List.mem_cons.mp m with e | m
    · subst e
      refine .inr ⟨fun z => nd.1 ?_, List.mem_cons_self⟩
      show b ∈ hs.map (·.1)
      rw [show b = a from z]
      exact List.mem_map.mpr ⟨_, h.mem, rfl⟩
    · rcases ih nd.2 b u m with q | ⟨q1, q2⟩
      · exact .inl q
      · exact .inr ⟨q1, List.mem_cons_of_mem _ q2⟩
theorem Cut.perm {hs hs' : Hs} {a : Addr} {oc : OC} (h : Cut hs a oc hs') : hs.Perm ((a, oc) :: hs') := by
  induction h with
  | here => exact List.Perm.refl _
  | there _ ih => exact (ih.cons _).trans (List.Perm.swap _ _ _)
section
variable {K : PySem.W.Frag} {F G H : Hp} {hs hs' : Hs}
theorem HH.perm (h : HH K F G H hs) (p : hs.Perm hs') : HH K F G H hs' :=
  ⟨h.f, h.g, fun a oc m => h.own a oc (p.mem_iff.mpr m), (p.map (·.1)).nodup_iff.mp h.nd⟩
theorem HH.puts {a : Addr} {o : HO} {oc oc' : OC} (h : HH K F G H hs) (p : Put hs a oc oc' hs') (r : OcR K G o oc') : HH K F G (upd H a o) hs' := by
  obtain ⟨p1, p2, o1, p3, p4⟩ := h.own a oc p.mem
  refine ⟨fun b x e => ?_, fun b x e => ?_, fun b u mu => ?_, by rw [p.keys]; exact h.nd⟩
  · rw [upd_ne (ne_of_none e p1)]
    exact h.f b x e
  · rw [upd_ne (ne_of_none e p2)]
    exact h.g b x e
  · rcases p.out h.nd b u mu with ⟨rfl, rfl⟩ | ⟨ne, m⟩
    · exact ⟨p1, p2, o, upd_same, r⟩
    · obtain ⟨q1, q2, o', q3, q4⟩ := h.own b u m
      exact ⟨q1, q2, o', by rw [upd_ne ne]; exact q3, q4⟩
theorem HH.freezes {a : Addr} {ds : List PyData} (h : HH K F G H hs) (c : Cut hs a (.lst (ds.map .d)) hs') : ∃ G', Grow F G G' ∧ HH K F G' H hs' ∧ Dt K G' (.ref a) (.list ds) := (h.perm c.perm).freeze
/-- a part of the heap is lent -/
theorem HH.lend {hc hr : Hs} (h : HH K F G H hs) (p : hs.Perm (hc ++ hr)) : ∃ F', HH K F' G H hc ∧ ∀ G' H' hc', Grow F' G G' → HH K F' G' H' hc' → Grow F G G' ∧ HH K F G' H' (hc' ++ hr) := by
  classical
  have h := h.perm p
  have nd := h.nd
  rw [List.map_append, List.nodup_append] at nd
  obtain ⟨nd1, nd2, nd3⟩ := nd
  let F' : Hp := fun b => if b ∈ hc.map (·.1) then none else H b
  have out : ∀ b, b ∉ hc.map (·.1) → F' b = H b := fun b n => if_neg n
  have inn : ∀ b, b ∈ hc.map (·.1) → F' b = none := fun b n => if_pos n
  have frF : ∀ b o, F b = some o → F' b = some o := fun b o e => by
    have n : b ∉ hc.map (·.1) := fun m => by
      obtain ⟨⟨c, u⟩, m1, e1⟩ := List.mem_map.mp m
      obtain ⟨q, _⟩ := h.own c u (List.mem_append_left _ m1)
      have e1 : c = b := e1
      rw [e1, e] at q
      cases q
    rw [out b n]
    exact h.f b o e
  refine ⟨F', ⟨fun b o e => ?_, h.g, fun a oc m => ?_, nd1⟩, fun G' H' hc' g hh => ⟨⟨g.up, fun b nb => ?_⟩, ⟨fun b o e => ?_, hh.g, fun a oc m => ?_, ?_⟩⟩⟩
  · by_cases n : b ∈ hc.map (·.1)
    · rw [inn b n] at e
      cases e
    · rw [out b n] at e
      exact e
  · obtain ⟨q1, q2, q3⟩ := h.own a oc (List.mem_append_left _ m)
    exact ⟨inn a (List.mem_map.mpr ⟨_, m, rfl⟩), q2, q3⟩
  · refine g.fr b fun z => nb ?_
    cases q : F b with
    | none => rfl
    | some o => rw [frF b o q] at z; cases z
  · exact hh.f b o (frF b o e)
  · rcases List.mem_append.mp m with m | m
    · obtain ⟨q1, q2, q3⟩ := hh.own a oc m
      refine ⟨?_, q2, q3⟩
      cases q : F a with
      | none => rfl
      | some o => rw [frF a o q] at q1; cases q1
    · obtain ⟨q1, q2, o, q3, q4⟩ := h.own a oc (List.mem_append_right _ m)
      have n : a ∉ hc.map (·.1) := fun z => nd3 a z a (List.mem_map.mpr ⟨_, m, rfl⟩) rfl
      have e1 : F' a = some o := by rw [out a n]; exact q3
      refine ⟨q1, ?_, o, hh.f a o e1, ocR_mono g.up q4⟩
      rw [g.fr a (by rw [e1]; exact fun z => nomatch z)]
      exact q2
  · rw [List.map_append, List.nodup_append]
    refine ⟨hh.nd, nd2, fun a m1 b m2 e => ?_⟩
    subst e
    obtain ⟨⟨c, u⟩, z1, e1⟩ := List.mem_map.mp m1
    obtain ⟨⟨c2, u2⟩, z2, e2⟩ := List.mem_map.mp m2
    have e1 : c = a := e1
    have e2 : c2 = a := e2
    subst e1
    subst e2
    obtain ⟨q1, _⟩ := hh.own _ u z1
    obtain ⟨_, _, o, q3, _⟩ := h.own _ u2 (List.mem_append_right _ z2)
    have n : c2 ∉ hc.map (·.1) := fun z => nd3 _ z _ m2 rfl
    rw [out c2 n, q3] at q1
    cases q1
end

section
variable {X : Cx} {e a b c : Expr} {es : List Expr} {ss : Sl} {hs : Hs} {pos : Pos}
/-! ### bools and tests -/
theorem ge_one {op} {Φ : EV → Hs → Prop} (h : GE X a ss hs Φ) : GE X (.BoolOp op [a] pos) ss hs Φ := ⟨fun F G H σ hh sl => we_of (pe_one pe_we) (h.run F G H σ hh sl)⟩
theorem dt_bl {K G v} {b : Bool} (h : Dt K G v (.bool b)) : v = .bl b := by cases h; rfl
theorem ge_and {rest : List Expr} {Φ : EV → Hs → Prop} (h : GE X a ss hs fun ev hs1 => ∃ t : Bool, ev = .d (.bool t) ∧ (t = true → GE X (.BoolOp .And (b :: rest) pos) ss hs1 Φ) ∧ (t = false → Φ (.d (.bool false)) hs1)) :
    GE X (.BoolOp .And (a :: b :: rest) pos) ss hs Φ := ⟨fun F G H σ hh sl => we_of (pe_and pe_we pe_we) ((h.run F G H σ hh sl).mono fun v H1 ⟨G1, ev, hs1, g1, hh1, r1, t, e1, q1, q2⟩ => by
  subst e1
  refine ⟨t, dt_bl r1, ?_⟩
  cases t with
  | true => exact iteT (((q1 rfl).run F G1 H1 σ hh1 (sl.mono g1.up)).mono fun w H2 ⟨G2, ev2, hs2, g2, z⟩ => ⟨G2, ev2, hs2, g1.trans g2, z⟩)
  | false => exact iteF ⟨G1, .d (.bool false), hs1, g1, hh1, Dt.bl false, q2 rfl⟩)⟩
theorem ge_or {rest : List Expr} {Φ : EV → Hs → Prop} (h : GE X a ss hs fun ev hs1 => ∃ t : Bool, ev = .d (.bool t) ∧ (t = false → GE X (.BoolOp .Or (b :: rest) pos) ss hs1 Φ) ∧ (t = true → Φ (.d (.bool true)) hs1)) :
    GE X (.BoolOp .Or (a :: b :: rest) pos) ss hs Φ := ⟨fun F G H σ hh sl => we_of (pe_or pe_we pe_we) ((h.run F G H σ hh sl).mono fun v H1 ⟨G1, ev, hs1, g1, hh1, r1, t, e1, q1, q2⟩ => by
  subst e1
  refine ⟨t, dt_bl r1, ?_⟩
  cases t with
  | false => exact iteF (((q1 rfl).run F G1 H1 σ hh1 (sl.mono g1.up)).mono fun w H2 ⟨G2, ev2, hs2, g2, z⟩ => ⟨G2, ev2, hs2, g1.trans g2, z⟩)
  | true => exact iteT ⟨G1, .d (.bool true), hs1, g1, hh1, Dt.bl true, q2 rfl⟩)⟩
theorem ge_not {Φ : EV → Hs → Prop} (h : GE X a ss hs fun ev hs1 => ∃ t : Bool, ev = .d (.bool t) ∧ Φ (.d (.bool (!t))) hs1) : GE X (.UnaryOp .Not a pos) ss hs Φ := ⟨fun F G H σ hh sl =>
  we_of (pe_not pe_we) ((h.run F G H σ hh sl).mono fun v H1 ⟨G1, ev, hs1, g1, hh1, r1, t, e1, q1⟩ => by
    subst e1
    exact ⟨t, dt_bl r1, G1, .d (.bool (!t)), hs1, g1, hh1, Dt.bl _, q1⟩)⟩
theorem gp_one {op} {d : PyData} (h : GP X a ss hs d) : GP X (.BoolOp op [a] pos) ss hs d := ge_one h
theorem gp_and {rest : List Expr} {t u : Bool} (h : GP X a ss hs (.bool t)) (h2 : t = true → GP X (.BoolOp .And (b :: rest) pos) ss hs (.bool u)) : GP X (.BoolOp .And (a :: b :: rest) pos) ss hs (.bool (t && u)) :=
  ge_and (h.of ⟨t, rfl, fun z => (h2 z).is (by rw [z]; rfl), fun z => ⟨by rw [z]; rfl, rfl⟩⟩)
theorem gp_or {rest : List Expr} {t u : Bool} (h : GP X a ss hs (.bool t)) (h2 : t = false → GP X (.BoolOp .Or (b :: rest) pos) ss hs (.bool u)) : GP X (.BoolOp .Or (a :: b :: rest) pos) ss hs (.bool (t || u)) :=
  ge_or (h.of ⟨t, rfl, fun z => (h2 z).is (by rw [z]; rfl), fun z => ⟨by rw [z]; rfl, rfl⟩⟩)
theorem gp_not {t : Bool} (h : GP X a ss hs (.bool t)) : GP X (.UnaryOp .Not a pos) ss hs (.bool (!t)) := ge_not (h.of ⟨t, rfl, rfl, rfl⟩)
theorem gt_of {Φ : Bool → Hs → Prop} (hp : ∀ t, PE X e t → PT X e (tB t)) (h : GE X e ss hs fun ev hs1 => ∃ t : Bool, ev = .d (.bool t) ∧ Φ t hs1) : GT X e ss hs Φ := ⟨fun F G H σ hh sl =>
  wt_of (hp _ pe_we) ((h.run F G H σ hh sl).mono fun v H1 ⟨G1, ev, hs1, g1, hh1, r1, t, e1, q1⟩ => by
    subst e1
    exact ⟨t, dt_bl r1, G1, hs1, g1, hh1, q1⟩)⟩
/-- a call, a name .. whose value is a bool, as a test -/
theorem gt_val {Φ : Bool → Hs → Prop} (h : GE X e ss hs fun ev hs1 => ∃ t : Bool, ev = .d (.bool t) ∧ Φ t hs1) (he : ∀ whole, isTrue e X.env whole = (do let v ← whole; standAt e.pos; holding [v] (truthy v)) := by intro _; rfl) : GT X e ss hs Φ := gt_of (fun _ p => pt_val p he) h
theorem gt_cmp {op : CmpOp} {Φ : Bool → Hs → Prop} (h : GE X a ss hs fun e1 hs1 => ∃ d1, e1 = .d d1 ∧ GE X b ss hs1 fun e2 hs2 => ∃ d2, ∃ t : Bool, e2 = .d d2 ∧ CmpD X op d1 d2 (.bool t) ∧ Φ t hs2)
    (hm : behindInMarks op b = false := by first | exact nobehind _ (by decide) (by decide) | rfl) : GT X (.Compare a [op] [b] pos) ss hs Φ := ⟨fun F G H σ hh sl => by
  let R : R2 := fun x y H Q => ∃ r, OpR X (compareOp op) r ∧ r x y H Q
  have hR : OpR X (compareOp op) R := fun pins s σ H x y v u Q I rx ry ⟨r, ho, q⟩ => ho pins s σ H x y v u Q I rx ry q
  refine wt_of (pt_cmpR hR pe_we pe_we hm) ((h.run F G H σ hh sl).mono fun v H1 ⟨G1, ev, hs1, g1, hh1, r1, d1, e1, q⟩ => (q.run F G1 H1 σ hh1 (sl.mono g1.up)).mono fun w H2 ⟨G2, ev2, hs2, g2, hh2, r2, d2, t, e2, cd, k⟩ => ?_)
  subst e1
  subst e2
  obtain ⟨r, ho, rd⟩ := cd.ex
  exact ⟨r, ho, rd F G2 H2 hs2 v w _ hh2 (rv_mono g2.up r1) r2 fun z G' H' g' hh' rz => ⟨t, dt_bl rz, G', hs2, (g1.trans g2).trans g', hh', k⟩⟩⟩
theorem gt_not {Φ : Bool → Hs → Prop} (h : GT X a ss hs fun t hs1 => Φ (!t) hs1) : GT X (.UnaryOp .Not a pos) ss hs Φ := ⟨fun F G H σ hh sl =>
  wt_of (pt_not pt_wt) (h.run F G H σ hh sl)⟩
/-- and, or as tests -/
structure GW (X : Cx) (e : Expr) (ss : Sl) (hs : Hs) (Φ : Bool → Hs → Prop) : Prop where
  run : ∀ F G H σ, HH X.K F G H hs → SL X.K G σ ss → ∀ (whole : Sem Value) (pins : List (Addr × Obj)) (s : Shared), Inv X pins σ H s → wpAny (model X.prog X.w) X.A (isTrue e X.env whole) (TP X pins σ (TB X.K F G Φ)) X.xe s
theorem GW.gt {Φ : Bool → Hs → Prop} (h : GW X e ss hs Φ) : GT X e ss hs Φ := ⟨fun F G H σ hh sl pins s I => h.run F G H σ hh sl _ pins s I⟩
def WW (X : Cx) (e : Expr) : TT := fun σ H Q => ∀ (whole : Sem Value) (pins : List (Addr × Obj)) (s : Shared), Inv X pins σ H s → wpAny (model X.prog X.w) X.A (isTrue e X.env whole) (TP X pins σ Q) X.xe s
theorem pw_ww : PW X e (WW X e) := ⟨fun wh pins s σ H Q I h => h wh pins s I⟩
theorem ww_of {t : TT} (p : PW X e t) {σ : St} {H : Hp} {Q : Bool → Hp → Prop} (h : t σ H Q) : WW X e σ H Q := fun wh pins s I => p.run wh pins s σ H Q I h
theorem WW.mono {σ : St} {H : Hp} {Q Q' : Bool → Hp → Prop} (h : WW X e σ H Q) (k : ∀ v H', Q v H' → Q' v H') : WW X e σ H Q' := fun wh pins s I =>
  thn (h wh pins s I) fun u s' ⟨H', J, q⟩ => ⟨H', J, k u H' q⟩
theorem gw_and1 {Φ : Bool → Hs → Prop} (h : GT X a ss hs Φ) : GW X (.BoolOp .And [a] pos) ss hs Φ := ⟨fun F G H σ hh sl => ww_of (pw_and1 pt_wt) (h.run F G H σ hh sl)⟩
theorem gw_or1 {Φ : Bool → Hs → Prop} (h : GT X a ss hs Φ) : GW X (.BoolOp .Or [a] pos) ss hs Φ := ⟨fun F G H σ hh sl => ww_of (pw_or1 pt_wt) (h.run F G H σ hh sl)⟩
theorem gw_and {rest : List Expr} {Φ : Bool → Hs → Prop} (h : GT X a ss hs fun t hs1 => (t = true → GW X (.BoolOp .And (b :: rest) pos) ss hs1 Φ) ∧ (t = false → Φ false hs1)) : GW X (.BoolOp .And (a :: b :: rest) pos) ss hs Φ := ⟨fun F G H σ hh sl =>
  ww_of (pw_and pt_wt pw_ww) ((h.run F G H σ hh sl).mono fun t H1 ⟨G1, hs1, g1, hh1, q1, q2⟩ => by
    cases t with
    | true => exact iteT (WW.mono ((q1 rfl).run F G1 H1 σ hh1 (sl.mono g1.up)) fun w H2 ⟨G2, hs2, g2, z⟩ => ⟨G2, hs2, g1.trans g2, z⟩)
    | false => exact iteF ⟨G1, hs1, g1, hh1, q2 rfl⟩)⟩
theorem gw_or {rest : List Expr} {Φ : Bool → Hs → Prop} (h : GT X a ss hs fun t hs1 => (t = false → GW X (.BoolOp .Or (b :: rest) pos) ss hs1 Φ) ∧ (t = true → Φ true hs1)) : GW X (.BoolOp .Or (a :: b :: rest) pos) ss hs Φ := ⟨fun F G H σ hh sl =>
  ww_of (pw_or pt_wt pw_ww) ((h.run F G H σ hh sl).mono fun t H1 ⟨G1, hs1, g1, hh1, q1, q2⟩ => by
    cases t with
    | false => exact iteF (WW.mono ((q1 rfl).run F G1 H1 σ hh1 (sl.mono g1.up)) fun w H2 ⟨G2, hs2, g2, z⟩ => ⟨G2, hs2, g1.trans g2, z⟩)
    | true => exact iteT ⟨G1, hs1, g1, hh1, q2 rfl⟩)⟩
abbrev GWP (X : Cx) (e : Expr) (ss : Sl) (hs : Hs) (b : Bool) : Prop := GW X e ss hs fun c h => c = b ∧ h = hs
theorem GW.is {d d' : Bool} (h : GWP X e ss hs d) (q : d = d') : GWP X e ss hs d' := q ▸ h
theorem gtp_val {t : Bool} (h : GP X e ss hs (.bool t)) (he : ∀ whole, isTrue e X.env whole = (do let v ← whole; standAt e.pos; holding [v] (truthy v)) := by intro _; rfl) : GTP X e ss hs t := gt_val (h.of ⟨t, rfl, rfl, rfl⟩) he
theorem gtp_cmp {op : CmpOp} {d1 d2 : PyData} {t : Bool} (h1 : GP X a ss hs d1) (h2 : GP X b ss hs d2) (h : CmpD X op d1 d2 (.bool t)) (hm : behindInMarks op b = false := by first | exact nobehind _ (by decide) (by decide) | rfl) : GTP X (.Compare a [op] [b] pos) ss hs t :=
  gt_cmp (h1.of ⟨d1, rfl, h2.of ⟨d2, t, rfl, h, rfl, rfl⟩⟩) hm
theorem gtp_not {t : Bool} (h : GTP X a ss hs t) : GTP X (.UnaryOp .Not a pos) ss hs (!t) := gt_not (h.of ⟨rfl, rfl⟩)
theorem gwp_and1 {t : Bool} (h : GTP X a ss hs t) : GWP X (.BoolOp .And [a] pos) ss hs t := gw_and1 h
theorem gwp_or1 {t : Bool} (h : GTP X a ss hs t) : GWP X (.BoolOp .Or [a] pos) ss hs t := gw_or1 h
theorem gwp_and {rest : List Expr} {t u : Bool} (h : GTP X a ss hs t) (h2 : t = true → GWP X (.BoolOp .And (b :: rest) pos) ss hs u) : GWP X (.BoolOp .And (a :: b :: rest) pos) ss hs (t && u) :=
  gw_and (h.of ⟨fun z => (h2 z).is (by rw [z]; rfl), fun z => ⟨by rw [z]; rfl, rfl⟩⟩)
theorem gwp_or {rest : List Expr} {t u : Bool} (h : GTP X a ss hs t) (h2 : t = false → GWP X (.BoolOp .Or (b :: rest) pos) ss hs u) : GWP X (.BoolOp .Or (a :: b :: rest) pos) ss hs (t || u) :=
  gw_or (h.of ⟨fun z => (h2 z).is (by rw [z]; rfl), fun z => ⟨by rw [z]; rfl, rfl⟩⟩)
/-- a if t else b -/
theorem ge_if {Φ : EV → Hs → Prop} (h : GT X c ss hs fun t hs1 => (t = true → GE X a ss hs1 Φ) ∧ (t = false → GE X b ss hs1 Φ)) : GE X (.IfExp c a b pos) ss hs Φ := ⟨fun F G H σ hh sl =>
  we_of (pe_ifExp pt_wt pe_we pe_we) ((h.run F G H σ hh sl).mono fun t H1 ⟨G1, hs1, g1, hh1, q1, q2⟩ => by
    cases t with
    | true => exact iteT (((q1 rfl).run F G1 H1 σ hh1 (sl.mono g1.up)).mono fun w H2 ⟨G2, ev, hs2, g2, z⟩ => ⟨G2, ev, hs2, g1.trans g2, z⟩)
    | false => exact iteF (((q2 rfl).run F G1 H1 σ hh1 (sl.mono g1.up)).mono fun w H2 ⟨G2, ev, hs2, g2, z⟩ => ⟨G2, ev, hs2, g1.trans g2, z⟩))⟩
theorem gp_if {t : Bool} {d d' : PyData} (h : GTP X c ss hs t) (h1 : t = true → GP X a ss hs d) (h2 : t = false → GP X b ss hs d') : GP X (.IfExp c a b pos) ss hs (if t then d else d') :=
  ge_if (h.of ⟨fun z => (h1 z).is (by rw [z]; rfl), fun z => (h2 z).is (by rw [z]; rfl)⟩)
/-- a op b op' c -/
theorem ge_chain {op op' : CmpOp} {Φ : EV → Hs → Prop} (h : GE X a ss hs fun e1 hs1 => ∃ d1, e1 = .d d1 ∧ GE X b ss hs1 fun e2 hs2 => ∃ d2, ∃ t : Bool, e2 = .d d2 ∧ CmpD X op d1 d2 (.bool t) ∧ (t = false → Φ (.d (.bool false)) hs2) ∧
      (t = true → GE X c ss hs2 fun e3 hs3 => ∃ d3 d, e3 = .d d3 ∧ CmpD X op' d2 d3 d ∧ Φ (.d d) hs3))
    (hlm : lastMarks [op, op'] [b, c] = false := by rfl) : GE X (.Compare a [op, op'] [b, c] pos) ss hs Φ := ⟨fun F G H σ hh sl => by
  let R : R2 := fun x y H Q => ∃ r, OpR X (compareOp op) r ∧ r x y H Q
  have hR : OpR X (compareOp op) R := fun pins s σ H x y v u Q I rx ry ⟨r, ho, q⟩ => ho pins s σ H x y v u Q I rx ry q
  let R' : R2 := fun x y H Q => ∃ r, OpR X (compareOp op') r ∧ r x y H Q
  have hR' : OpR X (compareOp op') R' := fun pins s σ H x y v u Q I rx ry ⟨r, ho, q⟩ => ho pins s σ H x y v u Q I rx ry q
  refine we_of (pe_chain hR hR' pe_we pe_we pe_we hlm) ((h.run F G H σ hh sl).mono fun v H1 ⟨G1, ev, hs1, g1, hh1, r1, d1, e1, q⟩ => (q.run F G1 H1 σ hh1 (sl.mono g1.up)).mono fun w H2 ⟨G2, ev2, hs2, g2, hh2, r2, d2, t, e2, cd, k0, k1⟩ => ?_)
  subst e1
  subst e2
  obtain ⟨r, ho, rd⟩ := cd.ex
  refine ⟨r, ho, rd F G2 H2 hs2 v w _ hh2 (rv_mono g2.up r1) r2 fun z G3 H3 g3 hh3 rz => ⟨t, dt_bl rz, ?_⟩⟩
  cases t with
  | false => exact iteF ⟨G3, .d (.bool false), hs2, (g1.trans g2).trans g3, hh3, Dt.bl false, k0 rfl⟩
  | true =>
    refine iteT (((k1 rfl).run F G3 H3 σ hh3 (sl.mono ((g1.trans g2).trans g3).up)).mono fun y H4 ⟨G4, ev4, hs4, g4, hh4, r4, d3, d, e4, cd', k⟩ => ?_)
    subst e4
    obtain ⟨r', ho', rd'⟩ := cd'.ex
    exact ⟨r', ho', two rd' k (((g1.trans g2).trans g3).trans g4) hh4 (rv_mono (g3.trans g4).up r2) r4⟩⟩
theorem gp_chain {op op' : CmpOp} {d1 d2 d3 : PyData} {t u : Bool} (h1 : GP X a ss hs d1) (h2 : GP X b ss hs d2) (k1 : CmpD X op d1 d2 (.bool t)) (h3 : t = true → GP X c ss hs d3) (k2 : t = true → CmpD X op' d2 d3 (.bool u)) (hlm : lastMarks [op, op'] [b, c] = false := by rfl) : GP X (.Compare a [op, op'] [b, c] pos) ss hs (.bool (t && u)) :=
  ge_chain (h1.of ⟨d1, rfl, h2.of ⟨d2, t, rfl, k1, fun z => ⟨by rw [z]; rfl, rfl⟩, fun z => (h3 z).of ⟨d3, _, rfl, k2 z, by rw [z]; exact ⟨rfl, rfl⟩⟩⟩⟩) hlm
theorem gt_chain {op op' : CmpOp} {Φ : Bool → Hs → Prop} (h : GE X a ss hs fun e1 hs1 => ∃ d1, e1 = .d d1 ∧ GE X b ss hs1 fun e2 hs2 => ∃ d2, ∃ t : Bool, e2 = .d d2 ∧ CmpD X op d1 d2 (.bool t) ∧ (t = false → Φ false hs2) ∧
      (t = true → GE X c ss hs2 fun e3 hs3 => ∃ d3, ∃ u : Bool, e3 = .d d3 ∧ CmpD X op' d2 d3 (.bool u) ∧ Φ u hs3))
    (hlm : lastMarks [op, op'] [b, c] = false := by rfl) : GT X (.Compare a [op, op'] [b, c] pos) ss hs Φ := ⟨fun F G H σ hh sl => by
  let R : R2 := fun x y H Q => ∃ r, OpR X (compareOp op) r ∧ r x y H Q
  have hR : OpR X (compareOp op) R := fun pins s σ H x y v u Q I rx ry ⟨r, ho, q⟩ => ho pins s σ H x y v u Q I rx ry q
  let R' : R2 := fun x y H Q => ∃ r, OpR X (compareOp op') r ∧ r x y H Q
  have hR' : OpR X (compareOp op') R' := fun pins s σ H x y v u Q I rx ry ⟨r, ho, q⟩ => ho pins s σ H x y v u Q I rx ry q
  refine wt_of (pt_chain hR hR' pe_we pe_we pe_we hlm) ((h.run F G H σ hh sl).mono fun v H1 ⟨G1, ev, hs1, g1, hh1, r1, d1, e1, q⟩ => (q.run F G1 H1 σ hh1 (sl.mono g1.up)).mono fun w H2 ⟨G2, ev2, hs2, g2, hh2, r2, d2, t, e2, cd, k0, k1⟩ => ?_)
  subst e1
  subst e2
  obtain ⟨r, ho, rd⟩ := cd.ex
  refine ⟨r, ho, rd F G2 H2 hs2 v w _ hh2 (rv_mono g2.up r1) r2 fun z G3 H3 g3 hh3 rz => ⟨t, dt_bl rz, ?_⟩⟩
  cases t with
  | false => exact iteF ⟨false, rfl, G3, hs2, (g1.trans g2).trans g3, hh3, k0 rfl⟩
  | true =>
    refine iteT (((k1 rfl).run F G3 H3 σ hh3 (sl.mono ((g1.trans g2).trans g3).up)).mono fun y H4 ⟨G4, ev4, hs4, g4, hh4, r4, d3, u, e4, cd', k⟩ => ?_)
    subst e4
    obtain ⟨r', ho', rd'⟩ := cd'.ex
    exact ⟨r', ho', rd' F G4 H4 hs4 w y _ hh4 (rv_mono (g3.trans g4).up r2) r4 fun z' G5 H5 g5 hh5 rz' => ⟨u, dt_bl rz', G5, hs4, (((g1.trans g2).trans g3).trans g4).trans g5, hh5, k⟩⟩⟩
theorem gtp_chain {op op' : CmpOp} {d1 d2 d3 : PyData} {t u : Bool} (h1 : GP X a ss hs d1) (h2 : GP X b ss hs d2) (k1 : CmpD X op d1 d2 (.bool t)) (h3 : t = true → GP X c ss hs d3) (k2 : t = true → CmpD X op' d2 d3 (.bool u)) (hlm : lastMarks [op, op'] [b, c] = false := by rfl) : GTP X (.Compare a [op, op'] [b, c] pos) ss hs (t && u) :=
  gt_chain (h1.of ⟨d1, rfl, h2.of ⟨d2, t, rfl, k1, fun z => ⟨by rw [z]; rfl, rfl⟩, fun z => (h3 z).of ⟨d3, _, rfl, k2 z, by rw [z]; exact ⟨rfl, rfl⟩⟩⟩⟩) hlm

/-! ### statements -/
theorem SB.up {K : PySem.W.Frag} {F G G1 : Hp} {n : Nat} {Φ : Sl → Hs → Prop} (g : Grow F G G1) {σ : St} {H : Hp} (h : SB K F G1 n Φ σ H) : SB K F G n Φ σ H := by
  obtain ⟨G', ss', hs', g', q⟩ := h
  exact ⟨G', ss', hs', g.trans g', q⟩
theorem EB.up {K : PySem.W.Frag} {F G G1 : Hp} {Φ : EV → Hs → Prop} (g : Grow F G G1) {v : V} {H : Hp} (h : EB K F G1 Φ v H) : EB K F G Φ v H := by
  obtain ⟨G', ss', hs', g', q⟩ := h
  exact ⟨G', ss', hs', g.trans g', q⟩
theorem WS.mono {st : Stmt} {σ : St} {H : Hp} {D D' : Ends} (h : WS X st D σ H) (k : ∀ σ H, D.nx σ H → D'.nx σ H) (kr : ∀ v H, D.rt v H → D'.rt v H) (kb : ∀ σ H, D.bk σ H → D'.bk σ H) (kc : ∀ σ H, D.ct σ H → D'.ct σ H) : WS X st D' σ H :=
  fun pins s I => thn (h pins s I) fun f s' q => sp_mono k kr kb kc q
theorem WSs.mono {st : List Stmt} {σ : St} {H : Hp} {D D' : Ends} (h : WSs X st D σ H) (k : ∀ σ H, D.nx σ H → D'.nx σ H) (kr : ∀ v H, D.rt v H → D'.rt v H) (kb : ∀ σ H, D.bk σ H → D'.bk σ H) (kc : ∀ σ H, D.ct σ H → D'.ct σ H) : WSs X st D' σ H :=
  fun pins s I => thn (h pins s I) fun f s' q => sp_mono k kr kb kc q
theorem WSs.up {st : List Stmt} {σ : St} {H : Hp} {F G G1 : Hp} {D : Out} {n : Nat} (g : Grow F G G1) (h : WSs X st (D.ends X.K F G1 n) σ H) : WSs X st (D.ends X.K F G n) σ H :=
  WSs.mono h (fun _ _ => SB.up g) (fun _ _ => EB.up g) (fun _ _ => SB.up g) (fun _ _ => SB.up g)
theorem gss_nil {D : Out} (k : D.nx ss hs) : GSs X [] ss hs D := ⟨fun F G H σ hh sl hl => wss_of pss_nil ⟨G, ss, hs, Grow.refl F G, hh, sl, hl, k⟩⟩
theorem gss_cons {st : Stmt} {rest : List Stmt} {D : Out} (h : GS X st ss hs { D with nx := fun ss' hs' => GSs X rest ss' hs' D }) : GSs X (st :: rest) ss hs D := ⟨fun F G H σ hh sl hl =>
  wss_of (pss_cons ps_ws pss_wss) (WS.mono (h.run F G H σ hh sl hl) (fun σ' H' ⟨G', ss', hs', g, hh', sl', hl', q⟩ => WSs.up g (q.run F G' H' σ' hh' sl' hl')) (fun _ _ q => q) (fun _ _ q => q) (fun _ _ q => q))⟩
theorem gss_one {st : Stmt} {D : Out} (h : GS X st ss hs D) : GSs X [st] ss hs D := ⟨fun F G H σ hh sl hl => wss_of (pss_one ps_ws) (h.run F G H σ hh sl hl)⟩
/-- what is known may be forgotten -/
inductive Wk : Sl → Sl → Prop
  | nil {ss : Sl} : Wk ss []
  | keep {x : Option EV} {ss ss' : Sl} (h : Wk ss ss') : Wk (x :: ss) (x :: ss')
  | drop {x : Option EV} {ss ss' : Sl} (h : Wk ss ss') : Wk (x :: ss) (none :: ss')
theorem Wk.len {ss ss' : Sl} (h : Wk ss ss') : ss'.length ≤ ss.length := by
  induction h with
  | nil => exact Nat.zero_le _
  | keep _ ih => exact Nat.succ_le_succ ih
  | drop _ ih => exact Nat.succ_le_succ ih
theorem Wk.at {ss ss' : Sl} (h : Wk ss ss') : ∀ (i : Nat) (ev : EV), ss'[i]? = some (some ev) → ss[i]? = some (some ev) := by
  induction h with
  | nil => intro i ev q; simp at q
  | keep _ ih =>
    intro i ev q
    cases i with
    | zero => exact q
    | succ i => exact ih i ev q
  | drop _ ih =>
    intro i ev q
    cases i with
    | zero => simp at q
    | succ i => exact ih i ev q
theorem Wk.refl : ∀ ss : Sl, Wk ss ss
  | [] => .nil
  | _ :: ss => .keep (Wk.refl ss)
theorem SL.wk {K : PySem.W.Frag} {G : Hp} {σ : St} {ss ss' : Sl} (sl : SL K G σ ss) (w : Wk ss ss') : SL K G σ ss' := fun i ev q => sl i ev (w.at i ev q)
/-- .. up to what may be forgotten -/
def UpTo (I : Sl → Hs → Prop) : Sl → Hs → Prop := fun ss hs => ∃ ss', Wk ss ss' ∧ I ss' hs
theorem GSs.wk {st : List Stmt} {D : Out} {ss' : Sl} {hs' : Hs} (h : GSs X st ss' hs' D) (w : Wk ss ss') (e : hs'.Sublist hs := by exact List.Sublist.refl _) : GSs X st ss hs D := ⟨fun F G H σ hh sl hl2 =>
  h.run F G H σ (hh.sub e) (sl.wk w) (Nat.le_trans w.len hl2)⟩
/-- a list that changes no more, as data -/
theorem GSs.freeze {st : List Stmt} {D : Out} {hs' : Hs} {p : Addr} {ds : List PyData} (i : Nat) (h : GSs X st (ss.set i (some (.d (.list ds)))) hs' D) (hi : ss[i]? = some (some (.r p)) := by rfl) (c : Cut hs p (.lst (ds.map .d)) hs' := by first | exact .here | exact .there .here | exact .there (.there .here)) : GSs X st ss hs D := ⟨fun F G H σ hh sl hl => by
  obtain ⟨G', g, hh', r⟩ := hh.freezes c
  obtain ⟨v, e1, rv⟩ := sl i _ hi
  have rv : v = .ref p := rv
  subst rv
  refine WSs.up g (h.run F G' H σ hh' (fun j ev q => ?_) (by rw [List.length_set]; exact hl))
  rw [List.getElem?_set] at q
  split at q
  · rename_i hij
    subst hij
    split at q
    · have : EV.d (.list ds) = ev := by simpa using q
      subst this
      exact ⟨_, e1, r⟩
    · cases q
  · exact sl.mono g.up j ev q⟩
theorem gs_set {x : Str} {pos' : Pos} {D : Out} (i : Nat) (hN : X.N.Nodup) (h : GE X e ss hs fun ev hs1 => D.nx (ss.set i (some ev)) hs1) (hi : X.N[i]? = some x := by rfl) (hx : Loc X.env.scope x := by first | exact Or.inl rfl | exact Or.inr rfl) (hsw : swapsWith e (some (.Name x pos')) pos.line X.env = pure false := by rfl)
    (hf : X.fn x = true ∨ X.env.scope.names.lookup x = some .local := by first | exact .inl rfl | exact .inr rfl) : GS X (.Assign [.Name x pos'] e pos) ss hs D := ⟨fun F G H σ hh sl hl pins s I =>
  (ps_set (i := i) hN hi hx pe_we hsw hf).run pins s σ H _ I ((h.run F G H σ hh sl).mono fun v H1 ⟨G1, ev, hs1, g1, hh1, r1, q⟩ => by
    refine ⟨G1, ss.set i (some ev), hs1, g1, hh1, (sl.mono g1.up).set (by rw [I.len]; exact hl) r1 i, by rw [List.length_set]; exact hl, q⟩)⟩
theorem gs_asg {tg : Expr} {D : Out} {vs : List Nat} (h : GE X e ss hs fun ev hs1 => GG X tg ev ss hs1 vs D.nx) (hsw : swapsWithSole [tg] e pos.line X.env = pure false := by rfl) (hw : swappedStores [tg] e X.env = pure none := by rfl)
    (h1 : (assignEach [tg] X.env).map (·.2) = [assign tg X.env] := by rfl) : GS X (.Assign [tg] e pos) ss hs D := ⟨fun F G H σ hh sl hl =>
  ws_of (ps_asg pe_we pg_wg hsw hw h1) ((h.run F G H σ hh sl).mono fun v H1 ⟨G1, ev, hs1, g1, hh1, r1, q⟩ => fun pins s u I rv =>
    thn (q.run F G1 H1 σ v hh1 (sl.mono g1.up) hl r1 pins s u I rv) fun _ s' ⟨σ', H', J, z, _⟩ => ⟨σ', H', J, SB.up g1 z⟩)⟩
theorem gs_ret {D : Out} (h : GE X e ss hs D.rt) : GS X (.Return (some e) pos) ss hs D := ⟨fun F G H σ hh sl hl => ws_of (ps_ret pe_we) (h.run F G H σ hh sl)⟩
theorem gs_retN {D : Out} (h : D.rt (.d .none) hs) : GS X (.Return none pos) ss hs D := ⟨fun F G H σ hh sl hl => ws_of ps_retN ⟨G, .d .none, hs, Grow.refl F G, hh, Dt.non, h⟩⟩
theorem gs_if {t u : List Stmt} {D : Out} (h : GT X c ss hs fun b hs1 => (b = true → GSs X t ss hs1 D) ∧ (b = false → GSs X u ss hs1 D)) : GS X (.If c t u pos) ss hs D := ⟨fun F G H σ hh sl hl =>
  ws_of (ps_if pt_wt pss_wss pss_wss) ((h.run F G H σ hh sl).mono fun b H1 ⟨G1, hs1, g1, hh1, q1, q2⟩ => by
    cases b with
    | true => exact iteT (WSs.up g1 ((q1 rfl).run F G1 H1 σ hh1 (sl.mono g1.up) hl))
    | false => exact iteF (WSs.up g1 ((q2 rfl).run F G1 H1 σ hh1 (sl.mono g1.up) hl)))⟩
theorem gs_expr {D : Out} (h : GE X e ss hs fun _ hs1 => D.nx ss hs1) (hsw : swapsWith e none pos.line X.env = pure false := by rfl) : GS X (.Expr e pos) ss hs D := ⟨fun F G H σ hh sl hl =>
  ws_of (ps_expr pe_we hsw) ((h.run F G H σ hh sl).mono fun v H1 ⟨G1, ev, hs1, g1, hh1, r1, q⟩ => ⟨G1, ss, hs1, g1, hh1, sl.mono g1.up, hl, q⟩)⟩
theorem gs_pass {D : Out} (h : D.nx ss hs) : GS X (.Pass pos) ss hs D := ⟨fun F G H σ hh sl hl => ws_of ps_pass ⟨G, ss, hs, Grow.refl F G, hh, sl, hl, h⟩⟩
theorem gs_break {D : Out} (h : D.bk ss hs) : GS X (.Break pos) ss hs D := ⟨fun F G H σ hh sl hl => ws_of ps_break ⟨G, ss, hs, Grow.refl F G, hh, sl, hl, h⟩⟩
theorem gs_continue {D : Out} (h : D.ct ss hs) : GS X (.Continue pos) ss hs D := ⟨fun F G H σ hh sl hl => ws_of ps_continue ⟨G, ss, hs, Grow.refl F G, hh, sl, hl, h⟩⟩
/-- x += e, x -= e of ints -/
theorem gs_augI {x : Str} {op : Operator} {f : Int → Int → Int} {n : Int} {pos' : Pos} {D : Out} (i : Nat) (hN : X.N.Nodup) (ho : PIp X op (ipI f)) (hv : ss[i]? = some (some (.d (.int n)))) (h : GE X e ss hs fun ev hs1 => ∃ m, ev = .d (.int m) ∧ D.nx (ss.set i (some (.d (.int (f n m))))) hs1)
    (hi : X.N[i]? = some x := by rfl) (hx : Loc X.env.scope x := by first | exact Or.inl rfl | exact Or.inr rfl) (hf : X.fn x = true ∨ X.env.scope.names.lookup x = some .local := by first | exact .inl rfl | exact .inr rfl) : GS X (.AugAssign (.Name x pos') op e pos) ss hs D := ⟨fun F G H σ hh sl hl pins s I => by
  obtain ⟨v, e1, r⟩ := sl i _ hv
  refine (ps_aug (i := i) hN hi hx pe_we ho hf).run pins s σ H _ I ⟨v, e1, (h.run F G H σ hh sl).mono fun w H1 ⟨G1, ev, hs1, g1, hh1, r1, m, e2, q⟩ => ?_⟩
  subst e2
  have r : Dt X.K G v (.int n) := r
  have r1 : Dt X.K G1 w (.int m) := r1
  cases r
  cases r1
  exact ⟨n, m, rfl, rfl, G1, ss.set i (some (.d (.int (f n m)))), hs1, g1, hh1, (sl.mono g1.up).set (ev := .d (.int (f n m))) (by rw [I.len]; exact hl) (Dt.int _) i, by rw [List.length_set]; exact hl, q⟩⟩
/-! targets -/
theorem gg_name {x : Str} {ev : EV} {vs : List Nat} {Φ : Sl → Hs → Prop} (i : Nat) (hN : X.N.Nodup) (k : Φ (ss.set i (some ev)) hs) (hv : i ∈ vs := by simp) (hi : X.N[i]? = some x := by rfl) (hx : Loc X.env.scope x := by first | exact Or.inl rfl | exact Or.inr rfl) (hf : X.fn x = true ∨ X.env.scope.names.lookup x = some .local := by first | exact .inl rfl | exact .inr rfl) :
    GG X (.Name x pos) ev ss hs vs Φ := ⟨fun F G H σ v hh sl hl r pins s u I rv => (pg_name (i := i) hN hi hx hf).run pins s σ H v u _ I rv
      ⟨⟨G, ss.set i (some ev), hs, Grow.refl F G, hh, sl.set (by rw [I.len]; exact hl) r i, by rw [List.length_set]; exact hl, k⟩, List.length_set .., fun j hj => List.getElem?_set_ne (show i ≠ j from fun z => hj (z ▸ hv))⟩⟩
structure GGs (X : Cx) (tgs : List Expr) (evs : List EV) (ss : Sl) (hs : Hs) (vs : List Nat) (Φ : Sl → Hs → Prop) : Prop where
  run : ∀ F G H σ us, HH X.K F G H hs → SL X.K G σ ss → ss.length ≤ X.N.length → Paired (Rv X.K G) us evs → ∀ (pins : List (Addr × Obj)) (s : Shared) (ws : List Value), Inv X pins σ H s → Vals us ws →
    wpAny (model X.prog X.w) X.A (assignInOrder ((assignEach tgs X.env).map (·.2)) ws) (fun _ s' => ∃ σ' H', Inv X pins σ' H' s' ∧ SV X.K F G X.N.length vs σ Φ σ' H') X.xe s
theorem ggs_nil {vs : List Nat} {Φ : Sl → Hs → Prop} (k : Φ ss hs) : GGs X [] [] ss hs vs Φ := ⟨fun F G H σ us hh sl hl r pins s ws I rv => by
  cases r
  exact pgs_nil.run pins s σ H [] ws _ I rv ⟨rfl, ⟨G, ss, hs, Grow.refl F G, hh, sl, hl, k⟩, rfl, fun _ _ => rfl⟩⟩
theorem ggs_cons {t : Expr} {ts : List Expr} {ev : EV} {evs : List EV} {vs : List Nat} {Φ : Sl → Hs → Prop} (h : GG X t ev ss hs vs fun ss1 hs1 => GGs X ts evs ss1 hs1 vs Φ) (hst : (assignEach (t :: ts) X.env).map (·.2) = assign t X.env :: (assignEach ts X.env).map (·.2) := by rfl) : GGs X (t :: ts) (ev :: evs) ss hs vs Φ := ⟨fun F G H σ us hh sl hl r pins s ws I rv => by
  cases r with
  | @cons v _ vr _ r1 r2 =>
    cases rv with
    | cons x1 x2 =>
      rw [hst]
      refine assignInOrder_cons (thn (h.run F G H σ _ hh sl hl r1 pins s _ I x1) fun _ s1 ⟨σ1, H1, I1, ⟨G1, ss1, hs1, g1, hh1, sl1, hl1, q⟩, ln, ag⟩ => ?_)
      exact thn (q.run F G1 H1 σ1 _ hh1 sl1 hl1 (Paired.mapP r2 fun _ _ z => rv_mono g1.up z) pins s1 _ I1 x2) fun _ s' ⟨σ', H', J, z, ln', ag'⟩ => ⟨σ', H', J, SB.up g1 z, ln'.trans ln, fun j hj => (ag' j hj).trans (ag j hj)⟩⟩
/-- (a, b, ..) = a tuple -/
theorem gg_tup {tgs : List Expr} {k : Nat} {ds : List PyData} {vs : List Nat} {Φ : Sl → Hs → Prop} (hc : X.calm = true) (h : GGs X tgs (ds.map .d) ss hs vs Φ) (hn : (assignEach tgs X.env).length = ds.length := by rfl) (hst : (assignEach tgs X.env).findIdx? (·.1) = none := by rfl) :
    GG X (.Tuple tgs k pos) (.d (.tuple ds)) ss hs vs Φ := ⟨fun F G H σ v hh sl hl r pins s u I rv => by
  have r : Dt X.K G v (.tuple ds) := r
  cases r with
  | @tup a us _ s1 a1 =>
    have hp : PGs X tgs (fun vs σ' H' Q => ∀ (pins : List (Addr × Obj)) (s : Shared) (us : List Value), Inv X pins σ' H' s → Vals vs us →
        wpAny (model X.prog X.w) X.A (assignInOrder ((assignEach tgs X.env).map (·.2)) us) (fun _ s' => ∃ σ' H', Inv X pins σ' H' s' ∧ Q σ' H') X.xe s) := ⟨fun pins s σ H vs us Q I r h => h pins s us I r⟩
    refine (pg_tup (n := ds.length) hc hp hn hst).run pins s σ H _ u _ I rv ⟨a, us, rfl, sqT_mono hh.g s1, dpA_len a1, fun pins s us' I' rv' => ?_⟩
    exact h.run F G H σ us hh sl hl (d_paired a1) pins s us' I' rv'⟩
end
end Asl

/-! Asl: enumerate and zip over lists and tuples in any mix. -/
namespace Asl
open PySem PySem.Spec L2
open PyProof.Rows hiding St

/-- a list or a tuple that is read (t: a tuple) -/
def Sq (t : Bool) (K : PySem.W.Frag) (H : Hp) (a : Addr) (xs : List V) : Prop := if t then SqT K H a xs else SqL K H a xs
def SrcAt (t : Bool) (h : Heap) (a : Addr) (its : Array Value) : Prop := if t then h.IsTuple a its else h.IsList a its
def ItAt (t : Bool) (h : Heap) (it a : Addr) (i : Nat) : Prop := if t then h.IsTupleIter it a i else h.IsListIter it a i
def itObj (t : Bool) (a : Addr) : Obj := if t then { cls := .type "tuple_iterator", data := .fields #[.ref a, .int 0 0] } else { cls := .type "list_iterator", data := .fields #[.ref a, .int 0 0] }
section
variable {X : Cx} {pins : List (Addr × Obj)} {σ : St} {H : Hp} {s : Shared} {a it : Addr} {xs ys : List V} {t : Bool}
theorem sq_src (I : Inv X pins σ H s) (h : Sq t X.K H a xs) : ∃ its : List Value, Vals xs its ∧ SrcAt t s.heap a its.toArray ∧ xs.length ≤ sizeLine := by
  cases t with
  | true =>
    obtain ⟨its, r, p, z⟩ := I.tuple h
    exact ⟨its, r, p, z⟩
  | false =>
    obtain ⟨its, r, p, z⟩ := I.list h
    exact ⟨its, r, p.isList, z⟩
theorem sq_inj (I : Inv X pins σ H s) (h : Sq t X.K H a xs) (h' : Sq t X.K H a ys) : xs = ys := by
  cases t with
  | true => exact I.tuple_inj h h'
  | false => exact I.list_inj h h'
theorem sq_mono {K : PySem.W.Frag} {G H : Hp} (e : Same G H) (h : Sq t K G a xs) : Sq t K H a xs := by
  cases t with
  | true => exact sqT_mono e h
  | false => exact sqL_mono e h
theorem src_lt {h : Heap} {its : Array Value} (x : SrcAt t h a its) : a < h.objs.size := by
  cases t with
  | true => obtain ⟨o, e, _⟩ := x; exact Heap.lt_size e
  | false => obtain ⟨o, e, _⟩ := x; exact Heap.lt_size e
theorem it_obj {h : Heap} {i : Nat} (x : ItAt t h it a i) : ∃ o, h.get? it = some o ∧ ∀ v, o.data ≠ .cell v := by
  cases t with
  | true => obtain ⟨o, e, _, d⟩ := x; exact ⟨o, e, fun v q => by rw [d] at q; cases q⟩
  | false => obtain ⟨o, e, _, d⟩ := x; exact ⟨o, e, fun v q => by rw [d] at q; cases q⟩
theorem it_keep {h h' : Heap} {i : Nat} (x : ItAt t h it a i) (k : ∀ o, h.get? it = some o → h'.get? it = some o) : ItAt t h' it a i := by
  cases t with
  | true => exact Heap.IsTupleIter.at x k
  | false => exact Heap.IsListIter.at x k
theorem src_keep {h h' : Heap} {its : Array Value} (x : SrcAt t h a its) (k : ∀ o, h.get? a = some o → h'.get? a = some o) : SrcAt t h' a its := by
  cases t with
  | true => exact Heap.IsTuple.at x k
  | false => exact Heap.IsList.at x k
theorem it_zero {h : Heap} (e : h.get? it = some (itObj t a)) : ItAt t h it a 0 := by
  cases t with
  | true => exact ⟨_, e, rfl, rfl⟩
  | false => exact ⟨_, e, rfl, rfl⟩
theorem src_begins (a : Addr) (its : Array Value) : Begins (.ref a) (itObj t a) fun h => SrcAt t h a its := by
  cases t with
  | true => exact begins_tuple a its
  | false => exact begins_list a its
theorem src_draws {prog : Program} {w : World} {A : Around} (hh : A.handled = none) (it a : Addr) (ne : a ≠ it) (its : Array Value) :
    Draws prog w A it [it, a] its.size (fun i v => its[i]? = some v) (fun i h => ItAt t h it a i ∧ SrcAt t h a its) := by
  cases t with
  | true => exact Draws.tuple hh it a ne its
  | false => exact Draws.list hh it a ne its
end

/-! ### enumerate -/
/-- a source at a, each item in a new pair with its number -/
def Jenum (t : Bool) (K : PySem.W.Frag) (a : Addr) : It :=
  ⟨fun i H => ∃ xs x, Sq t K H a xs ∧ xs[i]? = some x, fun i H v H' => ∃ T x, v = .ref T ∧ H T = none ∧ H' = upd H T (.tup [.int (i : Nat), x]) ∧ ∀ xs, Sq t K H a xs → xs[i]? = some x, fun i H => ∃ xs, Sq t K H a xs ∧ xs.length = i⟩
theorem enum_new {v : Value} {o : Obj} {Hq : Heap → Prop} (B : Begins v o Hq) :
    Meets (Builtin.«enumerate.__new__» ⟨[.type "enumerate", v], []⟩) (fun _ R s => Hq s.heap ∧
      R (.ok (.ret (.ref (s.heap.push o).objs.size))) { s with heap := (s.heap.push o).push { cls := .type "enumerate", data := .fields #[.none, .bool false, .ref s.heap.objs.size, rawInt 0, .none, .none] } }) :=
  .of_wp fun prog w A R s h => by
    obtain ⟨hp, g, d, tk, os⟩ := s
    obtain ⟨h1, h⟩ := h
    have hs := sub_enumerate
    have go : ∀ {A' : Around} {E : Value → Shared → Prop} {Q : Value → Shared → Prop}, Q (.ref hp.objs.size) ⟨hp.push o, g, d, tk, os⟩ → wpAny (model prog w) A' (pyIter v) Q E ⟨hp, g, d, tk, os⟩ := fun q => B.iter prog w _ _ ⟨hp, g, d, tk, os⟩ _ h1 q
    wp_walk using go
    refine wpAny_stack_any fun st => wpAny_pure ?_
    split
    · rename_i c _ _ _ _ _
      cases (c == Value.type "enumerate") <;> (wp_walk using go; exact ⟨_, rfl, h⟩)
    · wp_walk using go
      exact ⟨_, rfl, h⟩
theorem enum_call {prog : Program} {w : World} {A : Around} {E : Value → Shared → Prop} {s : Shared} {v : Value} {o : Obj} {Hq : Heap → Prop} {Q : Value → Shared → Prop} (B : Begins v o Hq) (h1 : Hq s.heap)
    (h : ∀ h', IsEnum h' (s.heap.objs.size + 1) s.heap.objs.size 0 .none → h'.get? s.heap.objs.size = some o → (∀ b o, s.heap.get? b = some o → h'.get? b = some o) → Q (.ref (s.heap.objs.size + 1)) { s with heap := h' }) :
    wpAny (model prog w) A (call (.type "enumerate") [v]) Q E s := by
  refine callType_new F.called_enumerate (by decide) (F.typeCall_enumerate_1 _) (F.newCall_enumerate_1 _) (fun obj => F.args_object_init_2 obj _) F.entry_enumerate_new (enum_new B) ⟨h1, ?_⟩
  have z : (s.heap.push o).objs.size = s.heap.objs.size + 1 := Heap.size_push ..
  show _ ∧ _
  rw [z]
  have en : IsEnum ((s.heap.push o).push { cls := .type "enumerate", data := .fields #[.none, .bool false, .ref s.heap.objs.size, rawInt 0, .none, .none] }) (s.heap.objs.size + 1) s.heap.objs.size 0 .none := by
    have q := Heap.get?_push_size (s.heap.push o) (o := { cls := .type "enumerate", data := .fields #[.none, .bool false, .ref s.heap.objs.size, rawInt 0, .none, .none] }) rfl
    rw [z] at q
    exact q
  exact ⟨⟨_, en, rfl⟩, h _ en (Heap.get?_push_of_some _ (Heap.get?_push_size _ B.free)) fun b u x => Heap.get?_push_of_some _ (Heap.get?_push_of_some _ x)⟩
/-- a new pair behind an iterator's turn -/
theorem pair_laid {X : Cx} {pins : List (Addr × Obj)} {σ : St} {H : Hp} {s : Shared} {h' : Heap} {tk : Nat} {T : Addr} {ch : List Addr} {x y : V} {u v : Value} (I : Inv X pins σ H s) (k : ∀ b o, b ∉ ch → s.heap.get? b = some o → h'.get? b = some o)
    (hf : ∀ b ∈ ch, FpOk X pins H b) (hT : s.heap.objs.size ≤ T) (ht : h'.IsTuple T #[u, v]) (rx : RelV x u) (ry : RelV y v) : Inv X pins σ (upd H T (.tup [x, y])) { s with heap := h', toks := tk } :=
  I.turnedNew (ch := ch) k hf hT ⟨by show 2 ≤ sizeLine; decide, [u, v], .cons rx (.cons ry .nil), ht⟩
theorem turn_enumK {P : Program} {w : World} {K : PySem.W.Frag} {elts : List Expr} {kk : Nat} {tpos : Pos} (t : Bool) (a e it : Addr) (ne : e ≠ it) :
    Turn P w K (.Tuple elts kk tpos) (Jenum t K a) [e, it] e (fun i h => (∃ old, IsEnum h e it (0 + ((i : Nat) : Int)) old) ∧ ItAt t h it a i) := by
  have base : ∀ (X : Cx), X.prog = P → X.w = w → X.K = K → X.calm = true → ∀ (i : Nat) (pins : List (Addr × Obj)) (s : Shared) (σ : St) (H : Hp), Inv X pins σ H s → (∀ b ∈ [e, it], FpOk X pins H b) → ∀ xs, Sq t K H a xs → (∃ old, IsEnum s.heap e it (0 + ((i : Nat) : Int)) old) ∧ ItAt t s.heap it a i →
      ∃ its : List Value, Vals xs its ∧ SrcAt t s.heap a its.toArray ∧ a ≠ it ∧ a ≠ e := by
    intro X hP hw hK hc i pins s σ H I hf xs hq st
    subst hP hw hK
    obtain ⟨its, rv, p, hz⟩ := sq_src I hq
    refine ⟨its, rv, p, fun z => ?_, fun z => ?_⟩
    · obtain ⟨o, e1, _⟩ := it_obj st.2
      subst z
      cases t with
      | true =>
        obtain ⟨o1, q1, c1, _⟩ := p
        obtain ⟨o2, q2, c2, _⟩ := st.2
        rw [q1] at q2; cases q2; rw [c1] at c2; injection c2 with z; exact absurd z (by decide)
      | false =>
        obtain ⟨o1, q1, c1, _⟩ := p
        obtain ⟨o2, q2, c2, _⟩ := st.2
        rw [q1] at q2; cases q2; rw [c1] at c2; injection c2 with z; exact absurd z (by decide)
    · obtain ⟨⟨old, he⟩, _⟩ := st
      subst z
      cases t with
      | true =>
        obtain ⟨o1, q1, c1, _⟩ := p
        have he' : s.heap.get? a = some _ := he
        rw [q1] at he'; cases he'; injection c1 with z; exact absurd z (by decide)
      | false =>
        obtain ⟨o1, q1, c1, _⟩ := p
        have he' : s.heap.get? a = some _ := he
        rw [q1] at he'; cases he'; injection c1 with z; exact absurd z (by decide)
  refine ⟨by simp, fun i h st b hb => ?_, fun i h h' st k => ?_, ?_, ?_, fun A i s Q E st h => ?_⟩
  · have e' : b = e ∨ b = it := by simpa using hb
    rcases e' with z | z
    · obtain ⟨⟨old, he⟩, _⟩ := st
      rw [z]
      exact ⟨_, he, fun v q => by cases q⟩
    · rw [z]
      exact it_obj st.2
  · obtain ⟨⟨old, he⟩, hi⟩ := st
    exact ⟨⟨old, k e (by simp) _ he⟩, it_keep hi fun o q => k it (by simp) o q⟩
  · intro X hP hw hK hc i pins s σ H E I hf st hg
    obtain ⟨xs, x, hq, hx⟩ := hg
    obtain ⟨its, rv, p, nai, nae⟩ := base X hP hw hK hc i pins s σ H I hf xs hq st
    subst hP hw hK
    obtain ⟨u, hu, ru⟩ := rv.get hx
    have hd : X.A.in1.handled = none := I.ok.hd hc
    have W := GoesN.enumFrom (elts := elts) (x1 := kk) (pos := tpos) 0 (src_draws (prog := X.prog) (w := X.w) (t := t) hd it a nai its.toArray) e ne (by simp [ne, Ne.symm nae]) (by simp)
    have hlt : i < its.toArray.size := by
      obtain ⟨q, _⟩ := List.getElem?_eq_some_iff.mp hu
      simpa using q
    refine wpAny_mono (W.goes i s (fun v s' => ∃ x' H', Inv X pins σ H' s' ∧ RelV x' v ∧ (Jenum t X.K a).yld i H x' H' ∧ ((∃ old, IsEnum s'.heap e it (0 + (((i + 1 : Nat) : Nat) : Int)) old) ∧ ItAt t s'.heap it a (i + 1)) ∧ ∀ b ∈ [e, it], H' b = none) E hlt ⟨st.1, st.2, p⟩ ?_) (fun r s1 ⟨v, er, q⟩ => ⟨v, er, q⟩) fun _ _ q => q
    intro v h' tk ⟨T, tok, x', ev, hT, px, ht⟩ st' keep _
    subst ev
    have hux : x' = u := by
      have q1 : its[i]? = some x' := by simpa using px
      rw [hu] at q1
      exact (Option.some.inj q1).symm
    subst hux
    have hfr : H T = none := I.hok.fresh hT
    have I1 := pair_laid (tk := tk) (x := .int (i : Nat)) (y := x) I keep hf hT ht ⟨tok, by rw [Int.zero_add]⟩ ru
    refine ⟨.ref T, _, I1, rfl, ⟨T, x, rfl, hfr, rfl, fun ys hy => by rw [sq_inj I hy hq]; exact hx⟩, ⟨st'.1, st'.2.1⟩, fun b hb => ?_⟩
    have hb' : b < s.heap.objs.size := by
      have e' : b = e ∨ b = it := by simpa using hb
      rcases e' with z | z
      · obtain ⟨⟨old, he⟩, _⟩ := st
        rw [z]
        exact Heap.lt_size he
      · obtain ⟨o, e1, _⟩ := it_obj st.2
        rw [z]
        exact Heap.lt_size e1
    rw [upd_ne (Nat.ne_of_lt (Nat.lt_of_lt_of_le hb' hT))]
    exact (hf b hb).1
  · intro X hP hw hK hc i pins s σ H E I hf st hg
    obtain ⟨xs, hq, hx⟩ := hg
    obtain ⟨its, rv, p, nai, nae⟩ := base X hP hw hK hc i pins s σ H I hf xs hq st
    subst hP hw hK
    have hl := rv.length
    have hd : X.A.in1.handled = none := I.ok.hd hc
    have W := GoesN.enumFrom (elts := elts) (x1 := kk) (pos := tpos) 0 (src_draws (prog := X.prog) (w := X.w) (t := t) hd it a nai its.toArray) e ne (by simp [ne, Ne.symm nae]) (by simp)
    have hi : i = its.toArray.size := by simp; omega
    subst hi
    exact W.stops s (fun s1 => Inv X pins σ H s1) E ⟨st.1, st.2, p⟩ fun h' tk keep _ => I.turnedL (ch := [e, it]) keep hf
  · obtain ⟨⟨old, he⟩, _⟩ := st
    exact wpAny_pyIter_enum he h
def iEnumK (t : Bool) (K : PySem.W.Frag) (ta : TA) : TI := fun σ H R => ta σ H fun vs H1 => ∃ a xs, vs = [.ref a] ∧ Sq t K H1 a xs ∧ R (Jenum t K a) H1
theorem pi_enumK (t : Bool) {X : Cx} {e : Expr} {ta : TA} {p pos tpos : Pos} {elts : List Expr} {kk : Nat} (hg : Gl X "enumerate") (hm : X.mg "enumerate" = none) (ha : PA X [e] ta) (hs : starEach [e] X.env = [(false, eval e X.env)]) :
    PI X (.Tuple elts kk tpos) (.Call (.Name "enumerate" p) [e] [] pos) (iEnumK t X.K ta) := by
  refine ⟨fun pins s σ H R I h => Call_ (ld_blt I hg hm boot_enumerate (PyProof.Rows.callWith_type1 (thn (ha.run pos pins s σ H _ I h) fun us s1 ⟨vs, H1, I1, r1, a, xs, ex, hq, q⟩ => ?_) hs rfl))⟩
  subst ex
  cases r1 with
  | cons r rr =>
    cases rr
    cases r
    obtain ⟨its, rv, p', hz⟩ := sq_src I1 hq
    refine enum_call (src_begins (t := t) a its.toArray) p' fun h' he hit hk => wpAny_pyIter_enum he ?_
    have I2 : Inv X pins σ H1 { s1 with heap := h' } := I1.kept (t' := s1.toks) hk
    refine ⟨s1.heap.objs.size + 1, [s1.heap.objs.size + 1, s1.heap.objs.size], _, _, H1, rfl, I2, turn_enumK t a (s1.heap.objs.size + 1) s1.heap.objs.size (Nat.succ_ne_self _), ⟨⟨.none, he⟩, it_zero hit⟩, fun b hb => ?_, q⟩
    have hle : s1.heap.objs.size ≤ b := by
      have e' : b = s1.heap.objs.size + 1 ∨ b = s1.heap.objs.size := by simpa using hb
      rcases e' with z | z
      · rw [z]; exact Nat.le_succ _
      · rw [z]; exact Nat.le_refl _
    exact I1.fpOk hle (I1.hok.fresh hle)
end Asl

namespace Asl
open PySem PySem.Spec L2
open PyProof.Rows hiding St
/-! ### zip -/
def Jzip (t u : Bool) (K : PySem.W.Frag) (a b : Addr) : It :=
  ⟨fun i H => ∃ xs ys x y, Sq t K H a xs ∧ Sq u K H b ys ∧ xs[i]? = some x ∧ ys[i]? = some y, fun i H v H' => ∃ T x y, v = .ref T ∧ H T = none ∧ H' = upd H T (.tup [x, y]) ∧ (∀ xs, Sq t K H a xs → xs[i]? = some x) ∧ ∀ ys, Sq u K H b ys → ys[i]? = some y,
    fun i H => ∃ xs ys, Sq t K H a xs ∧ Sq u K H b ys ∧ i = min xs.length ys.length⟩
def ZipTn (t u : Bool) (z TI TO i1 i2 a b : Addr) (i : Nat) (h : Heap) : Prop := IsZip h z TI TO .none ∧ IsTupOf2 h TI (.ref i1) (.ref i2) ∧ (∃ a1 a2, IsTupOf2 h TO a1 a2) ∧ ItAt t h i1 a i ∧ ItAt u h i2 b i
theorem turn_zipK {P : Program} {w : World} {K : PySem.W.Frag} {elts : List Expr} {kk : Nat} {tpos : Pos} (t u : Bool) (z TI TO i1 i2 a b : Addr) (D : ZipSep2 z TI TO i1 i2 [i1, a] [i2, b]) (n1 : a ≠ i1) (n2 : b ≠ i2) :
    Turn P w K (.Tuple elts kk tpos) (Jzip t u K a b) [z, TI, TO, i1, i2] z (ZipTn t u z TI TO i1 i2 a b) := by
  refine ⟨by simp, fun i h st c hb => ?_, fun i h h' st k => ?_, ?_, ?_, fun A i s Q E st h => ?_⟩
  · obtain ⟨q1, q2, ⟨x, y, q3⟩, q4, q5⟩ := st
    have e' : c = z ∨ c = TI ∨ c = TO ∨ c = i1 ∨ c = i2 := by simpa using hb
    rcases e' with e | e | e | e | e
    · rw [e]; exact ⟨_, q1, fun v q => by cases q⟩
    · rw [e]; exact ⟨_, q2, fun v q => by cases q⟩
    · rw [e]; exact ⟨_, q3, fun v q => by cases q⟩
    · rw [e]; exact it_obj q4
    · rw [e]; exact it_obj q5
  · obtain ⟨q1, q2, ⟨x, y, q3⟩, q4, q5⟩ := st
    exact ⟨k z (by simp) _ q1, k TI (by simp) _ q2, ⟨x, y, k TO (by simp) _ q3⟩, it_keep q4 fun o q => k i1 (by simp) o q, it_keep q5 fun o q => k i2 (by simp) o q⟩
  · intro X hP hw hK hc i pins s σ H E I hf st hg
    subst hP hw hK
    obtain ⟨xs, ys, x, y, hx, hy, ex, ey⟩ := hg
    obtain ⟨its, rv, p, _⟩ := sq_src I hx
    obtain ⟨its2, rv2, p2, _⟩ := sq_src I hy
    obtain ⟨v1, hu, ru⟩ := rv.get ex
    obtain ⟨v2, hu2, ru2⟩ := rv2.get ey
    obtain ⟨q1, q2, q3, q4, q5⟩ := st
    have hd : X.A.in1.handled = none := I.ok.hd hc
    have W := GoesN.zip2 (elts := elts) (x1 := kk) (pos := tpos) D (src_draws (prog := X.prog) (w := X.w) (t := t) hd i1 a n1 its.toArray) (src_draws (prog := X.prog) (w := X.w) (t := u) hd i2 b n2 its2.toArray)
    have l1 : i < its.toArray.size := by
      obtain ⟨q, _⟩ := List.getElem?_eq_some_iff.mp hu
      simpa using q
    have l2 : i < its2.toArray.size := by
      obtain ⟨q, _⟩ := List.getElem?_eq_some_iff.mp hu2
      simpa using q
    refine wpAny_mono (W.goes i s (fun v s' => ∃ x' H', Inv X pins σ H' s' ∧ RelV x' v ∧ (Jzip t u X.K a b).yld i H x' H' ∧ ZipTn t u z TI TO i1 i2 a b (i + 1) s'.heap ∧ ∀ b ∈ [z, TI, TO, i1, i2], H' b = none) E (by omega) ⟨q1, q2, q3, ⟨q4, p⟩, ⟨q5, p2⟩⟩ ?_) (fun r s1 ⟨v, er, q⟩ => ⟨v, er, q⟩) fun _ _ q => q
    intro v h' tk ⟨T, x', y', ev, hT, px, py, ht⟩ st' keep _
    subst ev
    have e1 : x' = v1 := by
      have q1 : its[i]? = some x' := by simpa using px
      rw [hu] at q1
      exact (Option.some.inj q1).symm
    have e2 : y' = v2 := by
      have q1 : its2[i]? = some y' := by simpa using py
      rw [hu2] at q1
      exact (Option.some.inj q1).symm
    subst e1
    subst e2
    have hfr : H T = none := I.hok.fresh hT
    have keep2 : ∀ c o, c ∉ [z, TI, TO, i1, i2] → s.heap.get? c = some o → h'.get? c = some o := fun c o hc e => keep c o (fun m => hc (by
      have m' : c = z ∨ c = TO ∨ c = i1 ∨ c = i2 := by simpa using m
      rcases m' with e | e | e | e <;> simp [e])) e
    have I1 := pair_laid (tk := tk) (x := x) (y := y) I keep2 hf hT ht ru ru2
    obtain ⟨w1, w2, w3, ⟨w4, _⟩, ⟨w5, _⟩⟩ := st'
    refine ⟨.ref T, _, I1, rfl, ⟨T, x, y, rfl, hfr, rfl, fun l hl => by rw [sq_inj I hl hx]; exact ex, fun l hl => by rw [sq_inj I hl hy]; exact ey⟩, ⟨w1, w2, w3, w4, w5⟩, fun c hcm => ?_⟩
    have hlt : c < s.heap.objs.size := by
      obtain ⟨x0, y0, q3⟩ := q3
      have e' : c = z ∨ c = TI ∨ c = TO ∨ c = i1 ∨ c = i2 := by simpa using hcm
      rcases e' with e | e | e | e | e
      · rw [e]; exact Heap.lt_size q1
      · rw [e]; exact Heap.lt_size q2
      · rw [e]; exact Heap.lt_size q3
      · obtain ⟨o, e1, _⟩ := it_obj q4
        rw [e]; exact Heap.lt_size e1
      · obtain ⟨o, e1, _⟩ := it_obj q5
        rw [e]; exact Heap.lt_size e1
    rw [upd_ne (Nat.ne_of_lt (Nat.lt_of_lt_of_le hlt hT))]
    exact (hf c hcm).1
  · intro X hP hw hK hc i pins s σ H E I hf st hg
    subst hP hw hK
    obtain ⟨xs, ys, hx, hy, hi⟩ := hg
    obtain ⟨its, rv, p, _⟩ := sq_src I hx
    obtain ⟨its2, rv2, p2, _⟩ := sq_src I hy
    obtain ⟨q1, q2, q3, q4, q5⟩ := st
    have hd : X.A.in1.handled = none := I.ok.hd hc
    have W := GoesN.zip2 (elts := elts) (x1 := kk) (pos := tpos) D (src_draws (prog := X.prog) (w := X.w) (t := t) hd i1 a n1 its.toArray) (src_draws (prog := X.prog) (w := X.w) (t := u) hd i2 b n2 its2.toArray)
    have l1 := rv.length
    have l2 := rv2.length
    have hi' : i = min its.toArray.size its2.toArray.size := by
      rw [hi, l1, l2]
      simp
    subst hi'
    refine W.stops s (fun s1 => Inv X pins σ H s1) E ⟨q1, q2, q3, ⟨q4, p⟩, ⟨q5, p2⟩⟩ fun h' tk keep _ => I.turnedL (ch := [z, TI, TO, i1, i2]) (fun c o hc e => keep c o (fun m => hc (by
      have m' : c = z ∨ c = TO ∨ c = i1 ∨ c = i2 := by simpa using m
      rcases m' with e | e | e | e <;> simp [e])) e) hf
  · exact wpAny_pyIter_zip st.1 h
def iZipK (t u : Bool) (K : PySem.W.Frag) (ta : TA) : TI := fun σ H R => ta σ H fun vs H1 => ∃ a b xs ys, vs = [.ref a, .ref b] ∧ Sq t K H1 a xs ∧ Sq u K H1 b ys ∧ R (Jzip t u K a b) H1
theorem pi_zipK (t u : Bool) {X : Cx} {e e2 : Expr} {ta : TA} {p pos tpos : Pos} {elts : List Expr} {kk : Nat} (hg : Gl X "zip") (hm : X.mg "zip" = none) (ha : PA X [e, e2] ta)
    (hs : starEach [e, e2] X.env = (false, eval e X.env) :: starEach [e2] X.env) (hpl : (backTo pos (starEach [e2] X.env)).any (·.1) = false) :
    PI X (.Tuple elts kk tpos) (.Call (.Name "zip" p) [e, e2] [] pos) (iZipK t u X.K ta) := by
  refine ⟨fun pins s σ H R I h => Call_ (ld_blt I hg hm PyProof.Rows.boot_zip (PyProof.Rows.callWith_type1 (thn (ha.run pos pins s σ H _ I h) fun us s1 ⟨vs, H1, I1, r1, a, b, xs, ys, ex, hx, hy, q⟩ => ?_) hs hpl))⟩
  subst ex
  cases r1 with
  | cons r rr =>
    cases rr with
    | cons r' rr =>
      cases rr
      cases r
      cases r'
      obtain ⟨its, rv, p1, _⟩ := sq_src I1 hx
      obtain ⟨its2, rv2, p2, _⟩ := sq_src I1 hy
      have ha := src_lt p1
      have hb := src_lt p2
      refine zip_begins2 (src_begins (t := t) a its.toArray) (src_begins (t := u) b its2.toArray) p1 p2 fun h' hz hTI hTO e1 e2 hsz hk => wpAny_pyIter_zip hz ?_
      have I2 : Inv X pins σ H1 { s1 with heap := h' } := I1.kept (t' := s1.toks) hk
      refine ⟨s1.heap.objs.size + 4, [s1.heap.objs.size + 4, s1.heap.objs.size + 2, s1.heap.objs.size + 3, s1.heap.objs.size, s1.heap.objs.size + 1], _, _, H1, rfl, I2,
        turn_zipK t u _ _ _ _ _ a b (zip_sep2 (N := s1.heap.objs.size) (fp1 := [a]) (fp2 := [b]) (fun c hc => by rw [List.mem_singleton.mp hc]; exact ha) (fun c hc => by rw [List.mem_singleton.mp hc]; exact hb)) (Nat.ne_of_lt ha) (Nat.ne_of_lt (Nat.lt_succ_of_lt hb)),
        ⟨hz, hTI, ⟨_, _, hTO⟩, it_zero e1, it_zero e2⟩, fun c hc => ?_, q⟩
      have hle : s1.heap.objs.size ≤ c := by
        have e' : c = s1.heap.objs.size + 4 ∨ c = s1.heap.objs.size + 2 ∨ c = s1.heap.objs.size + 3 ∨ c = s1.heap.objs.size ∨ c = s1.heap.objs.size + 1 := by simpa using hc
        rcases e' with z | z | z | z | z
        · rw [z]; exact Nat.le_add_right _ _
        · rw [z]; exact Nat.le_add_right _ _
        · rw [z]; exact Nat.le_add_right _ _
        · rw [z]; exact Nat.le_refl _
        · rw [z]; exact Nat.le_add_right _ _
      exact I1.fpOk hle (I1.hok.fresh hle)
end Asl

/-! Asl: what is walked; for, while; comprehensions. -/
namespace Asl
open PySem PySem.Spec L2
open PyProof.Rows hiding St

/-- the iterator gives these data -/
structure Yl (K : PySem.W.Frag) (G : Hp) (J : It) (items : List PyData) : Prop where
  go : ∀ i H, i < items.length → Same G H → J.go i H
  yl : ∀ i H x H' F' G' hs d, Same G G' → HH K F' G' H hs → J.yld i H x H' → items[i]? = some d → ∃ G'', Grow F' G' G'' ∧ HH K F' G'' H' hs ∧ Dt K G'' x d
  stop : ∀ H, Same G H → J.stop items.length H
def IB (K : PySem.W.Frag) (F G : Hp) (Φ : List PyData → Hs → Prop) : It → Hp → Prop := fun J H1 => ∃ G1 items hs1, Grow F G G1 ∧ HH K F G1 H1 hs1 ∧ Yl K G1 J items ∧ Φ items hs1
structure GI (X : Cx) (tg iter : Expr) (ss : Sl) (hs : Hs) (Φ : List PyData → Hs → Prop) : Prop where
  run : ∀ F G H σ, HH X.K F G H hs → SL X.K G σ ss → WI X tg iter σ H (IB X.K F G Φ)
abbrev GIP (X : Cx) (tg iter : Expr) (ss : Sl) (hs : Hs) (ds : List PyData) : Prop := GI X tg iter ss hs fun items hs' => items = ds ∧ hs' = hs
section
variable {K : PySem.W.Frag} {G : Hp} {a b : Addr} {xs ys : List PyData}
theorem yl_tup {us : List V} (h : SqT K G a us) (k : DtAll K G us xs) : Yl K G (Itt K a) xs where
  go := fun i H hi e => by
    obtain ⟨v, q, _⟩ := dpA_get k (List.getElem?_eq_getElem hi)
    exact ⟨us, v, sqT_mono e h, q⟩
  yl := fun i H x H' F' G' hs d e hh y hd => by
    obtain ⟨v, q, r⟩ := dpA_get k hd
    obtain ⟨e1, e2⟩ := y
    subst e1
    have := e2 us (sqT_mono (e.trans hh.g) h)
    rw [q] at this
    cases this
    exact ⟨G', Grow.refl _ _, hh, dp_mono e d _ r⟩
  stop := fun H e => ⟨us, sqT_mono e h, by rw [dpA_len k]; exact Nat.le_refl _⟩
theorem yl_lst {us : List V} (h : G a = some (.lst us)) (k : DtAll K G us xs) : Yl K G (Itl K a) xs where
  go := fun i H hi e => by
    obtain ⟨v, q, _⟩ := dpA_get k (List.getElem?_eq_getElem hi)
    exact ⟨us, v, SqL.of (e _ _ h), q⟩
  yl := fun i H x H' F' G' hs d e hh y hd => by
    obtain ⟨v, q, r⟩ := dpA_get k hd
    obtain ⟨e1, e2⟩ := y
    subst e1
    have := e2 us (SqL.of (hh.g _ _ (e _ _ h)))
    rw [q] at this
    cases this
    exact ⟨G', Grow.refl _ _, hh, dp_mono e d _ r⟩
  stop := fun H e => ⟨us, SqL.of (e _ _ h), by rw [dpA_len k]; exact Nat.le_refl _⟩
def intR (lo : Int) (n : Nat) : List PyData := (List.range n).map fun k => .int (lo + (k : Nat))
theorem intR_len {lo : Int} {n : Nat} : (intR lo n).length = n := by rw [intR, List.length_map, List.length_range]
theorem yl_rng {lo : Int} {n : Nat} : Yl K G (Itr lo n) (intR lo n) where
  go := fun i H hi e => by
    rw [intR_len] at hi
    exact hi
  yl := fun i H x H' F' G' hs d e hh y hd => by
    obtain ⟨e1, e2⟩ := y
    subst e1
    subst e2
    rw [intR, List.getElem?_map] at hd
    obtain ⟨k, q1, q2⟩ := Option.map_eq_some_iff.mp hd
    obtain ⟨q3, q4⟩ := List.getElem?_eq_some_iff.mp q1
    rw [List.getElem_range] at q4
    subst q4
    subst q2
    exact ⟨G', Grow.refl _ _, hh, .int _⟩
  stop := fun H e => by
    show n ≤ (intR lo n).length
    rw [intR_len]
    exact Nat.le_refl _
def intsC (lo c : Int) (n : Nat) : List PyData := (List.range n).map fun k => .int (lo + (k : Nat) * c)
theorem intsC_len {lo c : Int} {n : Nat} : (intsC lo c n).length = n := by rw [intsC, List.length_map, List.length_range]
theorem yl_rngC {lo c : Int} {n : Nat} : Yl K G (Itc lo c n) (intsC lo c n) where
  go := fun i H hi e => by
    rw [intsC_len] at hi
    exact hi
  yl := fun i H x H' F' G' hs d e hh y hd => by
    obtain ⟨e1, e2⟩ := y
    subst e1
    subst e2
    rw [intsC, List.getElem?_map] at hd
    obtain ⟨k, q1, q2⟩ := Option.map_eq_some_iff.mp hd
    obtain ⟨q3, q4⟩ := List.getElem?_eq_some_iff.mp q1
    rw [List.getElem_range] at q4
    subst q4
    subst q2
    exact ⟨G', Grow.refl _ _, hh, .int _⟩
  stop := fun H e => by
    show n ≤ (intsC lo c n).length
    rw [intsC_len]
    exact Nat.le_refl _
/-- a list (false) or a tuple (true) of data -/
def dq (t : Bool) (xs : List PyData) : PyData := if t then .tuple xs else .list xs
theorem dt_sq {t : Bool} {v : V} (h : Dt K G v (dq t xs)) : ∃ a us, v = .ref a ∧ Sq t K G a us ∧ DtAll K G us xs := by
  cases t with
  | true =>
    have h : Dt K G v (.tuple xs) := h
    cases h with
    | @tup p us _ h1 k => exact ⟨p, us, rfl, h1, k⟩
  | false =>
    have h : Dt K G v (.list xs) := h
    cases h with
    | @lst p us _ h1 k => exact ⟨p, us, rfl, SqL.of h1, k⟩
theorem pair_dt {F' G' H : Hp} {hs : Hs} {T : Addr} {x y : V} {d e : PyData} (hh : HH K F' G' H hs) (n : H T = none) (r1 : Dt K G' x d) (r2 : Dt K G' y e) : ∃ G'', Grow F' G' G'' ∧ HH K F' G'' (upd H T (.tup [x, y])) hs ∧ Dt K G'' (.ref T) (.tuple [d, e]) := by
  obtain ⟨g, hh'⟩ := hh.data (o := .tup [x, y]) n
  exact ⟨_, g, hh', .tup (.inl (.inl upd_same)) (.cons (dp_mono g.up _ _ r1) (.cons (dp_mono g.up _ _ r2) .nil))⟩
def enums (xs : List PyData) : List PyData := xs.zipIdx.map fun p => .tuple [.int (p.2 : Nat), p.1]
theorem enums_len : (enums xs).length = xs.length := by rw [enums, List.length_map, List.length_zipIdx]
theorem yl_enum {t : Bool} {us : List V} (h : Sq t K G a us) (k : DtAll K G us xs) : Yl K G (Jenum t K a) (enums xs) where
  go := fun i H hi e => by
    rw [enums_len] at hi
    obtain ⟨v, q, _⟩ := dpA_get k (List.getElem?_eq_getElem hi)
    exact ⟨us, v, sq_mono e h, q⟩
  yl := fun i H x H' F' G' hs d e hh y hd => by
    obtain ⟨T, v, rfl, n, rfl, q⟩ := y
    have q := q us (sq_mono (e.trans hh.g) h)
    rw [enums, List.getElem?_map, List.getElem?_zipIdx, Option.map_map] at hd
    obtain ⟨d0, q1, q2⟩ := Option.map_eq_some_iff.mp hd
    obtain ⟨v', q3, r⟩ := dpA_get k q1
    rw [q] at q3
    cases q3
    have q2 : PyData.tuple [.int ((0 + i : Nat) : Int), d0] = d := q2
    rw [Nat.zero_add] at q2
    subst q2
    exact pair_dt hh n (.int _) (dp_mono e d0 _ r)
  stop := fun H e => ⟨us, sq_mono e h, by rw [dpA_len k, enums_len]⟩
def zips (xs ys : List PyData) : List PyData := (xs.zip ys).map fun p => .tuple [p.1, p.2]
theorem zips_len : (zips xs ys).length = min xs.length ys.length := by rw [zips, List.length_map, List.length_zip]
theorem yl_zip {t u : Bool} {us ws : List V} (h : Sq t K G a us) (k : DtAll K G us xs) (h2 : Sq u K G b ws) (k2 : DtAll K G ws ys) : Yl K G (Jzip t u K a b) (zips xs ys) where
  go := fun i H hi e => by
    rw [zips_len] at hi
    obtain ⟨v, q, _⟩ := dpA_get k (List.getElem?_eq_getElem (show i < xs.length by omega))
    obtain ⟨v2, q2, _⟩ := dpA_get k2 (List.getElem?_eq_getElem (show i < ys.length by omega))
    exact ⟨us, ws, v, v2, sq_mono e h, sq_mono e h2, q, q2⟩
  yl := fun i H x H' F' G' hs d e hh y hd => by
    obtain ⟨T, v, v2, rfl, n, rfl, q, q2⟩ := y
    have q := q us (sq_mono (e.trans hh.g) h)
    have q2 := q2 ws (sq_mono (e.trans hh.g) h2)
    rw [zips, List.getElem?_map] at hd
    obtain ⟨⟨d0, d1⟩, q3, q4⟩ := Option.map_eq_some_iff.mp hd
    rw [List.getElem?_zip_eq_some] at q3
    obtain ⟨v', q5, r⟩ := dpA_get k q3.1
    obtain ⟨v2', q6, r2⟩ := dpA_get k2 q3.2
    rw [q] at q5
    cases q5
    rw [q2] at q6
    cases q6
    subst q4
    exact pair_dt hh n (dp_mono e d0 _ r) (dp_mono e d1 _ r2)
  stop := fun H e => ⟨us, ws, sq_mono e h, sq_mono e h2, by rw [dpA_len k, dpA_len k2, zips_len]⟩
end
section
variable {X : Cx} {tg iter e e2 : Expr} {ss : Sl} {hs : Hs} {pos p : Pos}
theorem gi_tup {Φ : List PyData → Hs → Prop} (h : GE X iter ss hs fun ev hs1 => ∃ ds, ev = .d (.tuple ds) ∧ Φ ds hs1) : GI X tg iter ss hs Φ := ⟨fun F G H σ hh sl =>
  wi_of (pi_tup pe_we) ((h.run F G H σ hh sl).mono fun v H1 ⟨G1, ev, hs1, g1, hh1, r1, ds, e1, q⟩ => by
    subst e1
    have r1 : Dt X.K G1 v (.tuple ds) := r1
    cases r1 with
    | @tup a us _ s k => exact ⟨a, rfl, ⟨us, sqT_mono hh1.g s⟩, G1, ds, hs1, g1, hh1, yl_tup s k, q⟩)⟩
theorem gi_lst {Φ : List PyData → Hs → Prop} (h : GE X iter ss hs fun ev hs1 => ∃ ds, ev = .d (.list ds) ∧ Φ ds hs1) : GI X tg iter ss hs Φ := ⟨fun F G H σ hh sl =>
  wi_of (pi_list pe_we) ((h.run F G H σ hh sl).mono fun v H1 ⟨G1, ev, hs1, g1, hh1, r1, ds, e1, q⟩ => by
    subst e1
    have r1 : Dt X.K G1 v (.list ds) := r1
    cases r1 with
    | @lst a us _ s k => exact ⟨a, rfl, ⟨us, SqL.of (hh1.g _ _ s)⟩, G1, ds, hs1, g1, hh1, yl_lst s k, q⟩)⟩
theorem gip_tup {ds : List PyData} (h : GP X iter ss hs (.tuple ds)) : GIP X tg iter ss hs ds := gi_tup (h.of ⟨ds, rfl, rfl, rfl⟩)
theorem gip_lst {ds : List PyData} (h : GP X iter ss hs (.list ds)) : GIP X tg iter ss hs ds := gi_lst (h.of ⟨ds, rfl, rfl, rfl⟩)
theorem paired_one {K : PySem.W.Frag} {G : Hp} {vs : List V} {d : PyData} (h : Paired (Rv K G) vs [.d d]) : ∃ v, vs = [v] ∧ Dt K G v d := by
  cases h with
  | cons h1 h2 =>
    cases h2
    exact ⟨_, rfl, h1⟩
theorem paired_two {K : PySem.W.Frag} {G : Hp} {vs : List V} {d e : PyData} (h : Paired (Rv K G) vs [.d d, .d e]) : ∃ v w, vs = [v, w] ∧ Dt K G v d ∧ Dt K G w e := by
  cases h with
  | cons h1 h2 =>
    obtain ⟨w, rfl, r⟩ := paired_one h2
    exact ⟨_, w, rfl, h1, r⟩
theorem paired_three {K : PySem.W.Frag} {G : Hp} {vs : List V} {d e f : PyData} (h : Paired (Rv K G) vs [.d d, .d e, .d f]) : ∃ v w z, vs = [v, w, z] ∧ Dt K G v d ∧ Dt K G w e ∧ Dt K G z f := by
  cases h with
  | cons h1 h2 =>
    obtain ⟨w, z, rfl, r, r'⟩ := paired_two h2
    exact ⟨_, w, z, rfl, h1, r, r'⟩
def Bd (i : Int) : Prop := -(2 ^ 62) ≤ i ∧ i < 2 ^ 62
theorem gi_rng1 {Φ : List PyData → Hs → Prop} (hm : X.mg "range" = none) (h : GA X [e] ss hs fun evs hs1 => ∃ j : Int, evs = [.d (.int j)] ∧ Bd j ∧ Φ (intR 0 j.toNat) hs1) (hg : Gl X "range" := by rfl) (hst : starEach [e] X.env = [(false, eval e X.env)] := by rfl) :
    GI X tg (.Call (.Name "range" p) [e] [] pos) ss hs Φ := ⟨fun F G H σ hh sl =>
  wi_of (pi_range1 hg hm pa_wa hst) ((h.run F G H σ hh sl).mono fun vs H1 ⟨G1, evs, hs1, g1, hh1, r1, j, e1, ⟨b1, b2⟩, q⟩ => by
    subst e1
    obtain ⟨v, rfl, r⟩ := paired_one r1
    cases r
    exact ⟨j, rfl, b1, b2, G1, _, hs1, g1, hh1, yl_rng, q⟩)⟩
theorem gi_rng2 {Φ : List PyData → Hs → Prop} (hm : X.mg "range" = none) (h : GA X [e, e2] ss hs fun evs hs1 => ∃ i j : Int, evs = [.d (.int i), .d (.int j)] ∧ Bd i ∧ Bd j ∧ Φ (intR i (j - i).toNat) hs1) (hg : Gl X "range" := by rfl) (hst : starEach [e, e2] X.env = [(false, eval e X.env), (false, eval e2 X.env)] := by rfl) (hst2 : starEach [e2] X.env = [(false, eval e2 X.env)] := by rfl) :
    GI X tg (.Call (.Name "range" p) [e, e2] [] pos) ss hs Φ := ⟨fun F G H σ hh sl =>
  wi_of (pi_range2 hg hm pa_wa hst hst2) ((h.run F G H σ hh sl).mono fun vs H1 ⟨G1, evs, hs1, g1, hh1, r1, i, j, e1, ⟨b1, b2⟩, ⟨b3, b4⟩, q⟩ => by
    subst e1
    obtain ⟨v, w, rfl, r, r'⟩ := paired_two r1
    cases r
    cases r'
    exact ⟨i, j, rfl, ⟨b1, b2, b3, b4⟩, G1, _, hs1, g1, hh1, yl_rng, q⟩)⟩
theorem gip_rng1 {j : Int} (hm : X.mg "range" = none) (h : GP X e ss hs (.int j)) (b : Bd j) (hg : Gl X "range" := by rfl) (hst : starEach [e] X.env = [(false, eval e X.env)] := by rfl) : GIP X tg (.Call (.Name "range" p) [e] [] pos) ss hs (intR 0 j.toNat) :=
  gi_rng1 hm ((gap_cons h gap_nil hst).of ⟨j, rfl, b, rfl, rfl⟩) hg hst
theorem gip_rng2 {i j : Int} (hm : X.mg "range" = none) (h : GP X e ss hs (.int i)) (h2 : GP X e2 ss hs (.int j)) (b : Bd i) (b2 : Bd j) (hg : Gl X "range" := by rfl) (hst : starEach [e, e2] X.env = [(false, eval e X.env), (false, eval e2 X.env)] := by rfl) (hst2 : starEach [e2] X.env = [(false, eval e2 X.env)] := by rfl) :
    GIP X tg (.Call (.Name "range" p) [e, e2] [] pos) ss hs (intR i (j - i).toNat) := gi_rng2 hm ((gap_cons h (gap_cons h2 gap_nil hst2) (by rw [hst, hst2])).of ⟨i, j, rfl, b, b2, rfl, rfl⟩) hg hst hst2
theorem gi_enum (t : Bool) {tgs : List Expr} {kk : Nat} {tpos : Pos} {Φ : List PyData → Hs → Prop} (hm : X.mg "enumerate" = none) (h : GA X [e] ss hs fun evs hs1 => ∃ ds, evs = [.d (dq t ds)] ∧ Φ (enums ds) hs1) (hg : Gl X "enumerate" := by rfl) (hst : starEach [e] X.env = [(false, eval e X.env)] := by rfl) :
    GI X (.Tuple tgs kk tpos) (.Call (.Name "enumerate" p) [e] [] pos) ss hs Φ := ⟨fun F G H σ hh sl =>
  wi_of (pi_enumK t hg hm pa_wa hst) ((h.run F G H σ hh sl).mono fun vs H1 ⟨G1, evs, hs1, g1, hh1, r1, ds, e1, q⟩ => by
    subst e1
    obtain ⟨v, rfl, r⟩ := paired_one r1
    obtain ⟨a, us, rfl, s, k⟩ := dt_sq r
    exact ⟨a, us, rfl, sq_mono hh1.g s, G1, _, hs1, g1, hh1, yl_enum s k, q⟩)⟩
theorem gip_enumT {ds : List PyData} {tgs : List Expr} {kk : Nat} {tpos : Pos} (hm : X.mg "enumerate" = none) (h : GP X e ss hs (.tuple ds)) (hg : Gl X "enumerate" := by rfl) (hst : starEach [e] X.env = [(false, eval e X.env)] := by rfl) : GIP X (.Tuple tgs kk tpos) (.Call (.Name "enumerate" p) [e] [] pos) ss hs (enums ds) :=
  gi_enum true hm ((gap_cons h gap_nil hst).of ⟨ds, rfl, rfl, rfl⟩) hg hst
theorem gip_enumL {ds : List PyData} {tgs : List Expr} {kk : Nat} {tpos : Pos} (hm : X.mg "enumerate" = none) (h : GP X e ss hs (.list ds)) (hg : Gl X "enumerate" := by rfl) (hst : starEach [e] X.env = [(false, eval e X.env)] := by rfl) : GIP X (.Tuple tgs kk tpos) (.Call (.Name "enumerate" p) [e] [] pos) ss hs (enums ds) :=
  gi_enum false hm ((gap_cons h gap_nil hst).of ⟨ds, rfl, rfl, rfl⟩) hg hst
theorem gi_zip (t u : Bool) {tgs : List Expr} {kk : Nat} {tpos : Pos} {Φ : List PyData → Hs → Prop} (hm : X.mg "zip" = none) (h : GA X [e, e2] ss hs fun evs hs1 => ∃ ds es, evs = [.d (dq t ds), .d (dq u es)] ∧ Φ (zips ds es) hs1) (hg : Gl X "zip" := by rfl)
    (hst : starEach [e, e2] X.env = (false, eval e X.env) :: starEach [e2] X.env := by rfl) (hpl : (backTo pos (starEach [e2] X.env)).any (·.1) = false := by rfl) : GI X (.Tuple tgs kk tpos) (.Call (.Name "zip" p) [e, e2] [] pos) ss hs Φ := ⟨fun F G H σ hh sl =>
  wi_of (pi_zipK t u hg hm pa_wa hst hpl) ((h.run F G H σ hh sl).mono fun vs H1 ⟨G1, evs, hs1, g1, hh1, r1, ds, es, e1, q⟩ => by
    subst e1
    obtain ⟨v, w, rfl, r, r'⟩ := paired_two r1
    obtain ⟨a, us, rfl, s, k⟩ := dt_sq r
    obtain ⟨b, ws, rfl, s2, k2⟩ := dt_sq r'
    exact ⟨a, b, us, ws, rfl, sq_mono hh1.g s, sq_mono hh1.g s2, G1, _, hs1, g1, hh1, yl_zip s k s2 k2, q⟩)⟩
theorem gip_zip (t u : Bool) {ds es : List PyData} {tgs : List Expr} {kk : Nat} {tpos : Pos} (hm : X.mg "zip" = none) (h : GP X e ss hs (dq t ds)) (h2 : GP X e2 ss hs (dq u es)) (hg : Gl X "zip" := by rfl)
    (hst : starEach [e, e2] X.env = (false, eval e X.env) :: starEach [e2] X.env := by rfl) (hst2 : starEach [e2] X.env = [(false, eval e2 X.env)] := by rfl) (hpl : (backTo pos (starEach [e2] X.env)).any (·.1) = false := by rfl) : GIP X (.Tuple tgs kk tpos) (.Call (.Name "zip" p) [e, e2] [] pos) ss hs (zips ds es) :=
  gi_zip t u hm ((gap_cons h (gap_cons h2 gap_nil hst2) hst).of ⟨ds, es, rfl, rfl, rfl⟩) hg hst hpl

/-! ### for, while -/
theorem gs_for {body : List Stmt} {D : Out} {vs : List Nat} (hp : PassesOwn (model X.prog X.w) X.A X.env X.xe) (hc : X.calm = true)
    (h : GI X tg iter ss hs fun items hs1 => ∃ I : Nat → Sl → Hs → Prop, I 0 ss hs1 ∧
      (∀ i d ss' hs', items[i]? = some d → I i ss' hs' → GG X tg (.d d) ss' hs' vs fun ss2 hs2 => GSs X body ss2 hs2 { D with nx := UpTo (I (i + 1)), ct := UpTo (I (i + 1)), bk := D.nx }) ∧ ∀ ss' hs', I items.length ss' hs' → D.nx ss' hs')
    (hs' : ∀ x, foldedSetIterable iter X.env x = pure x := by intro _; rfl) : GS X (.For tg iter body [] pos) ss hs D := ⟨fun F G H σ hh sl hl =>
  ws_of (ps_for hp hc pi_wi pg_wg pss_wss hs') ((fun pins s I => by
    refine thn (h.run F G H σ hh sl pins s I) fun v s1 q => ?_
    refine thn q fun itv s2 q => ?_
    obtain ⟨it, fp, tn, J, H1, e1, I1, T, t0, f1, G1, items, hs1, g1, hh1, Y, Iv, i0, step, fin⟩ := q
    refine ⟨it, fp, tn, J, H1, e1, I1, T, t0, f1, ?_⟩
    refine ⟨fun i m σ' H' => m = items.length - i ∧ i ≤ items.length ∧ ∃ G' ss' hs', Grow F G G' ∧ Same G1 G' ∧ HH X.K F G' H' hs' ∧ SL X.K G' σ' ss' ∧ ss'.length ≤ X.N.length ∧ Iv i ss' hs',
      ⟨items.length, rfl, Nat.zero_le _, G1, ss, hs1, g1, Same.refl _, hh1, sl.mono g1.up, hl, i0⟩, ?_⟩
    rintro i m σ' H' ⟨rfl, hi, G', ss', hs', g', gs, hh', sl', hl', iv⟩
    by_cases hlt : i < items.length
    · have hd : items[i]? = some items[i] := List.getElem?_eq_getElem hlt
      refine .inr ⟨Y.go i H' hlt (gs.trans hh'.g), fun σ2 H2 => ∃ G2 ss2 hs2, Grow F G G2 ∧ Same G1 G2 ∧ HH X.K F G2 H2 hs2 ∧ SL X.K G2 σ2 ss2 ∧ ss2.length ≤ X.N.length ∧ Iv (i + 1) ss2 hs2, fun σ2 H2 q => ⟨items.length - (i + 1), by omega, rfl, hlt, q⟩, fun x H2 y => ?_⟩
      obtain ⟨G2, g2, hh2, r2⟩ := Y.yl i H' x H2 F G' hs' _ gs hh' y hd
      intro pins s u I2 rv
      refine thn ((step i _ ss' hs' hd iv).run F G2 H2 σ' x hh2 (sl'.mono g2.up) hl' r2 pins s u I2 rv) fun _ s3 ⟨σ3, H3, I3, ⟨G3, ss3, hs3, g3, hh3, sl3, hl3, body⟩, _⟩ => ⟨σ3, H3, I3, ?_⟩
      have gg : Grow F G G3 := (g'.trans g2).trans g3
      have again : ∀ σ4 H4, SB X.K F G3 X.N.length (UpTo (Iv (i + 1))) σ4 H4 → ∃ G2 ss2 hs2, Grow F G G2 ∧ Same G1 G2 ∧ HH X.K F G2 H4 hs2 ∧ SL X.K G2 σ4 ss2 ∧ ss2.length ≤ X.N.length ∧ Iv (i + 1) ss2 hs2 := fun σ4 H4 ⟨G4, ss4, hs4, g4, hh4, sl4, hl4, ss5, w, iv5⟩ =>
        ⟨G4, ss5, hs4, gg.trans g4, ((gs.trans g2.up).trans g3.up).trans g4.up, hh4, sl4.wk w, Nat.le_trans w.len hl4, iv5⟩
      exact WSs.mono (body.run F G3 H3 σ3 hh3 sl3 hl3) again (fun _ _ => EB.up gg) (fun _ _ => SB.up gg) again
    · have e : i = items.length := by omega
      subst e
      exact .inl ⟨Y.stop H' (gs.trans hh'.g), G', ss', hs', g', hh', sl', hl', fin ss' hs' iv⟩ : WI X tg iter σ H _))⟩
theorem gs_while {c : Expr} {body : List Stmt} {D : Out} (hp : PassesOwn (model X.prog X.w) X.A X.env X.xe) (W : Nat → Sl → Hs → Prop) (m : Nat) (h0 : W m ss hs)
    (step : ∀ m ss' hs', W m ss' hs' → GT X c ss' hs' fun b hs1 => (b = true → GSs X body ss' hs1 { D with nx := UpTo fun s h => ∃ m', m' < m ∧ W m' s h, ct := UpTo fun s h => ∃ m', m' < m ∧ W m' s h, bk := D.nx }) ∧ (b = false → D.nx ss' hs1)) : GS X (.While c body [] pos) ss hs D := ⟨fun F G H σ hh sl hl =>
  ws_of (ps_while hp pt_wt pss_wss) ⟨fun m σ' H' => ∃ G' ss' hs', Grow F G G' ∧ HH X.K F G' H' hs' ∧ SL X.K G' σ' ss' ∧ ss'.length ≤ X.N.length ∧ W m ss' hs', ⟨m, G, ss, hs, Grow.refl _ _, hh, sl, hl, h0⟩, fun m σ' H' ⟨G', ss', hs', g', hh', sl', hl', w⟩ =>
    ((step m ss' hs' w).run F G' H' σ' hh' sl').mono fun b H1 ⟨G1, hs1, g1, hh1, q1, q2⟩ => by
      have gg : Grow F G G1 := g'.trans g1
      cases b with
      | false => exact iteF ⟨G1, ss', hs1, gg, hh1, sl'.mono g1.up, hl', q2 rfl⟩
      | true =>
        refine iteT ⟨fun σ2 H2 => ∃ m', m' < m ∧ ∃ G' ss' hs', Grow F G G' ∧ HH X.K F G' H2 hs' ∧ SL X.K G' σ2 ss' ∧ ss'.length ≤ X.N.length ∧ W m' ss' hs', fun σ2 H2 q => q, ?_⟩
        have again : ∀ σ4 H4, SB X.K F G1 X.N.length (UpTo fun s h => ∃ m', m' < m ∧ W m' s h) σ4 H4 → ∃ m', m' < m ∧ ∃ G' ss' hs', Grow F G G' ∧ HH X.K F G' H4 hs' ∧ SL X.K G' σ4 ss' ∧ ss'.length ≤ X.N.length ∧ W m' ss' hs' := fun σ4 H4 ⟨G4, ss4, hs4, g4, hh4, sl4, hl4, ss5, w5, m', hm, iv5⟩ =>
          ⟨m', hm, G4, ss5, hs4, gg.trans g4, hh4, sl4.wk w5, Nat.le_trans w5.len hl4, iv5⟩
        exact WSs.mono ((q1 rfl).run F G1 H1 σ' hh1 (sl'.mono g1.up) hl') again (fun _ _ => EB.up gg) (fun _ _ => SB.up gg) again⟩⟩

/-! ### comprehensions -/
/-- in the comprehension's block, wherever it stands -/
def BC (X : Cx) (scope : Scope) (k : Cx → Prop) : Prop := ∀ (s : Shared) (H : Hp) (C : Addr) (cl : List (Str × Addr)) (fp : List Addr), k (X.blk s H scope (compEnvC scope cl C X.env) fp)
/-- the block's own slots forgotten -/
def wipeS (ss : Sl) : List Nat → Sl
  | [] => ss
  | v :: vs => (wipeS ss vs).set v none
theorem wipeS_len (ss : Sl) : ∀ vs, (wipeS ss vs).length = ss.length
  | [] => rfl
  | v :: vs => by rw [wipeS, List.length_set, wipeS_len ss vs]
theorem wipe_get {σ : St} {i : Nat} : ∀ {vs : List Nat}, i ∉ vs → (wipe σ vs)[i]? = σ[i]?
  | [], _ => rfl
  | v :: vs, h => by
    rw [wipe, List.getElem?_set_ne (fun z => h (by simp [z]))]
    exact wipe_get fun z => h (by simp [z])
theorem wipe_in {σ : St} {i : Nat} (hi : i < σ.length) : ∀ {vs : List Nat}, i ∈ vs → (wipe σ vs)[i]? = some none
  | [], h => by simp at h
  | v :: vs, h => by
    rw [wipe]
    by_cases e : v = i
    · subst e
      exact List.getElem?_set_self (by rw [wipe_length]; exact hi)
    · rw [List.getElem?_set_ne e]
      exact wipe_in hi (by
        rcases List.mem_cons.mp h with z | z
        · exact absurd z.symm e
        · exact z)
theorem wipe_same {σ σ' : St} {vs : List Nat} (hl : σ'.length = σ.length) (h : ∀ j, j ∉ vs → σ'[j]? = σ[j]?) : wipe σ' vs = wipe σ vs := by
  apply List.ext_getElem?
  intro j
  by_cases hj : j ∈ vs
  · by_cases hlt : j < σ.length
    · rw [wipe_in hlt hj, wipe_in (by rw [hl]; exact hlt) hj]
    · rw [List.getElem?_eq_none (by rw [wipe_length]; omega), List.getElem?_eq_none (by rw [wipe_length]; omega)]
  · rw [wipe_get hj, wipe_get hj, h j hj]
theorem wipe_wipe {σ : St} {vs : List Nat} : wipe (wipe σ vs) vs = wipe σ vs := wipe_same (wipe_length σ vs) fun j hj => wipe_get hj
theorem sl_wipe {K : PySem.W.Frag} {G : Hp} {σ : St} {ss : Sl} (sl : SL K G σ ss) : ∀ vs, SL K G (wipe σ vs) (wipeS ss vs)
  | [] => sl
  | v :: vs => fun i ev q => by
    rw [wipeS, List.getElem?_set] at q
    rw [wipe]
    split at q
    · split at q
      · cases q
      · cases q
    · rename_i hne
      rw [List.getElem?_set_ne hne]
      exact sl_wipe sl vs i ev q
/-- the tests of a comprehension -/
inductive GIfs (X : Cx) (scope : Scope) : List Expr → Sl → Hs → (Bool → Hs → Prop) → Prop
  | none {ss : Sl} {hs : Hs} {Φ : Bool → Hs → Prop} (h : Φ true hs) : GIfs X scope [] ss hs Φ
  | one {c : Expr} {ss : Sl} {hs : Hs} {Φ : Bool → Hs → Prop} (h : BC X scope fun Y => GT Y c ss hs Φ) : GIfs X scope [c] ss hs Φ
def tTs (X : Cx) (scope : Scope) (ifs : List Expr) : TT := fun σ H Q => match ifs with
  | [] => Q true H
  | c :: _ => ∀ (s : Shared) (H0 : Hp) (C : Addr) (cl : List (Str × Addr)) (fp : List Addr), WT (X.blk s H0 scope (compEnvC scope cl C X.env) fp) c σ H Q
/-- a list comprehension: its value, and name = [..] -/
structure LCE (X : Cx) (e : Expr) (t : TE) : Prop where
  val : PE X e t
  put : ∀ {i : Nat} {y : Str} {py spos : Pos}, X.N[i]? = some y → X.env.scope.names.lookup y = some .local → swapsWith e (some (.Name y py)) spos.line X.env = pure true → PS X (.Assign [.Name y py] e spos) (tAsg t (gName i))
  mono : ∀ {σ : St} {H : Hp} {Q Q' : VK}, t σ H Q → (∀ v H', Q v H' → Q' v H') → t σ H Q'
def GLc (X : Cx) (e : Expr) (ss : Sl) (hs : Hs) (Φ : EV → Hs → Prop) : Prop := ∃ t : TE, LCE X e t ∧ ∀ F G H σ, HH X.K F G H hs → SL X.K G σ ss → t σ H (EB X.K F G Φ)
theorem GLc.val {e : Expr} {Φ : EV → Hs → Prop} (h : GLc X e ss hs Φ) : GE X e ss hs Φ := ⟨fun F G H σ hh sl => by
  obtain ⟨t, c, k⟩ := h
  exact we_of c.val (k F G H σ hh sl)⟩
theorem GLc.put {e : Expr} {Φ : EV → Hs → Prop} {y : Str} {py spos : Pos} {D : Out} (h : GLc X e ss hs Φ) (i : Nat) (k : ∀ ev hs1, Φ ev hs1 → D.nx (ss.set i (some ev)) hs1) (hy : X.N[i]? = some y := by rfl) (hyl : X.env.scope.names.lookup y = some .local := by rfl)
    (hsw : swapsWith e (some (.Name y py)) spos.line X.env = pure true := by exact sw_true rfl rfl rfl rfl) : GS X (.Assign [.Name y py] e spos) ss hs D := ⟨fun F G H σ hh sl hl pins s I => by
  obtain ⟨t, c, q⟩ := h
  refine (c.put hy hyl hsw).run pins s σ H _ I (c.mono (q F G H σ hh sl) fun v H1 ⟨G1, ev, hs1, g1, hh1, r1, q⟩ => ?_)
  exact ⟨G1, ss.set i (some ev), hs1, g1, hh1, (sl.mono g1.up).set (by rw [I.len]; exact hl) r1 i, by rw [List.length_set]; exact hl, k ev hs1 q⟩⟩
theorem GLc.putP {e : Expr} {d : PyData} {y : Str} {py spos : Pos} {D : Out} (h : GLc X e ss hs fun ev h => ev = .d d ∧ h = hs) (i : Nat) (k : D.nx (ss.set i (some (.d d))) hs) (hy : X.N[i]? = some y := by rfl) (hyl : X.env.scope.names.lookup y = some .local := by rfl)
    (hsw : swapsWith e (some (.Name y py)) spos.line X.env = pure true := by exact sw_true rfl rfl rfl rfl) : GS X (.Assign [.Name y py] e spos) ss hs D := h.put i (fun ev hs1 ⟨e1, e2⟩ => by
  subst e1
  subst e2
  exact k) hy hyl hsw
theorem WI.mono {σ : L2.St} {H : Hp} {R R' : It → Hp → Prop} (h : WI X tg iter σ H R) (k : ∀ J H', R J H' → R' J H') : WI X tg iter σ H R' := fun pins s I =>
  thn (h pins s I) fun v s1 q => thn q fun itv s2 ⟨it, fp, tn, J, H1, e1, I1, T, t0, f1, r⟩ => ⟨it, fp, tn, J, H1, e1, I1, T, t0, f1, k J H1 r⟩
theorem tlc_mono {g : TG} {tt : TT} {te : TE} {vs : List Nat} {σ : St} {H : Hp} {Q Q' : VK} (h : tLc (WI X tg iter) g tt te vs σ H Q) (k : ∀ v H', Q v H' → Q' v H') : tLc (WI X tg iter) g tt te vs σ H Q' :=
  WI.mono h fun J H' q D nD => by
    obtain ⟨W, w0, step⟩ := q D nD
    refine ⟨W, w0, fun i m H'' w => ?_⟩
    rcases step i m H'' w with ⟨a1, a2⟩ | a
    · exact .inl ⟨a1, k _ _ a2⟩
    · exact .inr a
theorem tlc2_mono {g g1 : TG} {tt tt1 : TT} {te : TE} {wi1 : TI} {vs vs1 : List Nat} {σ : St} {H : Hp} {Q Q' : VK} (h : tLc2 (WI X tg iter) g tt wi1 g1 tt1 te vs vs1 σ H Q) (k : ∀ v H', Q v H' → Q' v H') : tLc2 (WI X tg iter) g tt wi1 g1 tt1 te vs vs1 σ H Q' :=
  WI.mono h fun J H' q D nD => by
    obtain ⟨W, w0, step⟩ := q D nD
    refine ⟨W, w0, fun i m H'' w => ?_⟩
    rcases step i m H'' w with ⟨a1, a2⟩ | a
    · exact .inl ⟨a1, k _ _ a2⟩
    · exact .inr a
theorem glc {elt : Expr} {ifs : List Expr} {scope : Scope} (own : List (Str × Nat)) {Φ : EV → Hs → Prop} (hc : X.calm = true) (hN : X.N.Nodup) (ok : blkC X.N X.env.scope scope own = true) (hif : ifs.length ≤ 1 := by decide)
    (h : GI X tg iter ss hs fun items hs1 => ∃ I : Nat → List PyData → Hs → Prop, I 0 [] hs1 ∧
      (∀ i d acc hs', items[i]? = some d → I i acc hs' → acc.length < sizeLine ∧ BC X scope fun Y => GG Y tg (.d d) (wipeS ss (own.map (·.2))) hs' (own.map (·.2)) fun ss2 hs2 =>
        GIfs X scope ifs ss2 hs2 fun b hs3 => (b = true → BC X scope fun Y => GE Y elt ss2 hs3 fun ev hs4 => ∃ d', ev = .d d' ∧ I (i + 1) (acc ++ [d']) hs4) ∧ (b = false → I (i + 1) acc hs3)) ∧
      ∀ acc hs', I items.length acc hs' → Φ (.d (.list acc)) hs')
    (hfs : ∀ x, foldedSetIterable iter X.env x = pure x := by intro _; rfl) (hl : ss.length ≤ X.N.length := by exact Nat.le_of_ble_eq_true rfl) : GLc X (.ListComp elt [⟨tg, iter, ifs, 0⟩] scope pos) ss hs Φ := by
  let g : TG := fun v σ H Q => ∀ (s : Shared) (H0 : Hp) (C : Addr) (cl : List (Str × Addr)) (fp : List Addr), WG (X.blk s H0 scope (compEnvC scope cl C X.env) fp) tg v σ H Q
  let te : TE := fun σ H Q => ∀ (s : Shared) (H0 : Hp) (C : Addr) (cl : List (Str × Addr)) (fp : List Addr), WE (X.blk s H0 scope (compEnvC scope cl C X.env) fp) elt σ H Q
  have pg : ∀ (s : Shared) (H : Hp) (C : Addr) (cl : List (Str × Addr)) (fp : List Addr), PG (X.blk s H scope (compEnvC scope cl C X.env) fp) tg g := fun s H C cl fp => ⟨fun pins s' σ H' v u Q I r h => h s H C cl fp pins s' u I r⟩
  have pe : ∀ (s : Shared) (H : Hp) (C : Addr) (cl : List (Str × Addr)) (fp : List Addr), PE (X.blk s H scope (compEnvC scope cl C X.env) fp) elt te := fun s H C cl fp => ⟨fun pins s' σ H' Q I h => h s H C cl fp pins s' I⟩
  have pt : ∀ (s : Shared) (H : Hp) (C : Addr) (cl : List (Str × Addr)) (fp : List Addr), PTs (X.blk s H scope (compEnvC scope cl C X.env) fp) ifs (tTs X scope ifs) := fun s H C cl fp => by
    match ifs, hif with
    | [], _ => exact pts_nil
    | [c], _ => exact pts_one ⟨fun pins s' σ H' Q I h => h s H C cl fp pins s' I⟩
  refine ⟨tLc (WI X tg iter) g (tTs X scope ifs) te (own.map (·.2)), ⟨pe_lc hc hN pi_wi (blkOk_by ok) pg pt pe hfs, fun hy hyl hsw => ps_setLc hc hN hy hyl hsw pi_wi (blkOk_by ok) pg pt pe hfs, tlc_mono⟩, fun F G H σ hh sl pins s I => ?_⟩
  refine thn (h.run F G H σ hh sl pins s I) fun v s1 q => thn q fun itv s2 q => ?_
  obtain ⟨it, fp, tn, J, H1, e1, I1, T, t0, f1, G1, items, hs1, g1, hh1, Y, Iv, i0, step, fin⟩ := q
  refine ⟨it, fp, tn, J, H1, e1, I1, T, t0, f1, fun D nD => ?_⟩
  refine ⟨fun i m H' => m = items.length - i ∧ i ≤ items.length ∧ ∃ G' acc hs', Grow F G G' ∧ Same G1 G' ∧ HH X.K F G' H' ((D, .lst (acc.map .d)) :: hs') ∧ Iv i acc hs',
    ⟨items.length, rfl, Nat.zero_le _, G1, [], hs1, g1, Same.refl _, hh1.fresh nD ⟨[], rfl, .nil⟩, i0⟩, ?_⟩
  rintro i m H' ⟨rfl, hi, G', acc, hs', g', gs, hh', iv⟩
  by_cases hlt : i < items.length
  · have hd : items[i]? = some items[i] := List.getElem?_eq_getElem hlt
    refine .inr ⟨Y.go i H' hlt (gs.trans hh'.g), fun H2 => ∃ G' acc hs', Grow F G G' ∧ Same G1 G' ∧ HH X.K F G' H2 ((D, .lst (acc.map .d)) :: hs') ∧ Iv (i + 1) acc hs', fun H2 q => ⟨items.length - (i + 1), by omega, rfl, hlt, q⟩, fun x H2 y => ?_⟩
    obtain ⟨G2, g2, hh2, r2⟩ := Y.yl i H' x H2 F G' _ _ gs hh' y hd
    obtain ⟨hz, st⟩ := step i _ acc hs' hd iv
    obtain ⟨F2, hhc, back⟩ := hh2.lend (hc := hs') (hr := [(D, .lst (acc.map .d))]) (List.perm_append_comm (l₁ := [(D, OC.lst (acc.map EV.d))]) (l₂ := hs'))
    have slw := sl_wipe (sl.mono ((g'.trans g2).up)) (own.map (·.2))
    -- what a state of the block is worth outside
    have out : ∀ G4 H4 hs4, Grow F2 G2 G4 → HH X.K F2 G4 H4 hs4 → Grow F G G4 ∧ Same G1 G4 ∧ HH X.K F G4 H4 ((D, .lst (acc.map .d)) :: hs4) := fun G4 H4 hs4 g4 hh4 => by
      obtain ⟨b1, b2⟩ := back G4 H4 hs4 g4 hh4
      exact ⟨(g'.trans g2).trans b1, (gs.trans g2.up).trans b1.up, b2.perm List.perm_append_comm⟩
    intro sB HB CB clB fpB pinsB sB' uB IB rB
    refine thn ((st sB HB CB clB fpB).run F2 G2 H2 (wipe σ (own.map (·.2))) x hhc slw (by rw [wipeS_len]; exact hl) r2 pinsB sB' uB IB rB) fun _ s3 ⟨σ3, H3, I3, ⟨G3, ss3, hs3, g3, hh3, sl3, hl3, q3⟩, ln, ag⟩ => ⟨σ3, H3, I3, ?_, ?_⟩
    · rw [wipe_same ln ag, wipe_wipe]
    · have after : ∀ (b : Bool) (H4 : Hp), TB X.K F2 G3 (fun b hs3 => (b = true → BC X scope fun Y => GE Y elt ss3 hs3 fun ev hs4 => ∃ d', ev = .d d' ∧ Iv (i + 1) (acc ++ [d']) hs4) ∧ (b = false → Iv (i + 1) acc hs3)) b H4 →
          (if b = true then te σ3 H4 fun y H5 => ∃ acc0, H5 D = some (.lst acc0) ∧ acc0.length < sizeLine ∧ ∃ G' acc hs', Grow F G G' ∧ Same G1 G' ∧ HH X.K F G' (upd H5 D (.lst (acc0 ++ [y]))) ((D, .lst (acc.map .d)) :: hs') ∧ Iv (i + 1) acc hs' else ∃ G' acc hs', Grow F G G' ∧ Same G1 G' ∧ HH X.K F G' H4 ((D, .lst (acc.map .d)) :: hs') ∧ Iv (i + 1) acc hs') := by
        rintro b H4 ⟨G4, hs4, g4, hh4, k1, k2⟩
        cases b with
        | false =>
          obtain ⟨o1, o2, o3⟩ := out G4 H4 hs4 (g3.trans g4) hh4
          exact iteF ⟨G4, acc, hs4, o1, o2, o3, k2 rfl⟩
        | true =>
          refine iteT fun sE HE CE clE fpE => ?_
          refine ((k1 rfl sE HE CE clE fpE).run F2 G4 H4 σ3 hh4 (sl3.mono g4.up)).mono fun y H5 ⟨G5, ev, hs5, g5, hh5, r5, d', e5, k5⟩ => ?_
          subst e5
          obtain ⟨o1, o2, o3⟩ := out G5 H5 hs5 ((g3.trans g4).trans g5) hh5
          obtain ⟨p1, p2, o, p3, xs, rfl, p4⟩ := o3.own D _ List.mem_cons_self
          have lx : xs.length = acc.length := by rw [Paired.length p4, List.length_map]
          refine ⟨xs, p3, by rw [lx]; exact hz, G5, acc ++ [d'], hs5, o1, o2, ?_, k5⟩
          refine o3.puts .here ⟨xs ++ [y], rfl, ?_⟩
          exact d_paired (dpA_app (paired_d p4) (.cons r5 .nil))
      cases q3 with
      | none q =>
        have z := after true H3 ⟨G3, hs3, Grow.refl _ _, hh3, q⟩
        exact z
      | @one c _ _ _ q =>
        intro s0 H0 C0 cl0 fp0
        exact WT.mono (e := c) ((q s0 H0 C0 cl0 fp0).run F2 G3 H3 σ3 hh3 sl3) after
  · have e : i = items.length := by omega
    subst e
    refine .inl ⟨Y.stop H' (gs.trans hh'.g), ?_⟩
    obtain ⟨G2, g2, hh2, r2⟩ := hh'.freeze
    exact ⟨G2, .d (.list acc), hs', g'.trans g2, hh2, r2, fin acc hs' iv⟩
theorem ge_lc {elt : Expr} {ifs : List Expr} {scope : Scope} (own : List (Str × Nat)) {Φ : EV → Hs → Prop} (hc : X.calm = true) (hN : X.N.Nodup) (ok : blkC X.N X.env.scope scope own = true) (hif : ifs.length ≤ 1 := by decide)
    (h : GI X tg iter ss hs fun items hs1 => ∃ I : Nat → List PyData → Hs → Prop, I 0 [] hs1 ∧
      (∀ i d acc hs', items[i]? = some d → I i acc hs' → acc.length < sizeLine ∧ BC X scope fun Y => GG Y tg (.d d) (wipeS ss (own.map (·.2))) hs' (own.map (·.2)) fun ss2 hs2 =>
        GIfs X scope ifs ss2 hs2 fun b hs3 => (b = true → BC X scope fun Y => GE Y elt ss2 hs3 fun ev hs4 => ∃ d', ev = .d d' ∧ I (i + 1) (acc ++ [d']) hs4) ∧ (b = false → I (i + 1) acc hs3)) ∧
      ∀ acc hs', I items.length acc hs' → Φ (.d (.list acc)) hs')
    (hfs : ∀ x, foldedSetIterable iter X.env x = pure x := by intro _; rfl) (hl : ss.length ≤ X.N.length := by exact Nat.le_of_ble_eq_true rfl) : GE X (.ListComp elt [⟨tg, iter, ifs, 0⟩] scope pos) ss hs Φ := (glc own hc hN ok hif h hfs hl).val
/-- [f x for x in xs if p x], pure; xs: a list l through enc -/
theorem lp_lc {α : Type} {elt : Expr} {scope : Scope} {items : List PyData} (own : List (Str × Nat)) (l : List α) (enc : α → PyData) (f : α → PyData) (hc : X.calm = true) (hN : X.N.Nodup) (hi : GIP X tg iter ss hs items) (e : items = l.map enc) (hz : l.length ≤ sizeLine)
    (hb : ∀ x ∈ l, BC X scope fun Y => GG Y tg (.d (enc x)) (wipeS ss (own.map (·.2))) hs (own.map (·.2)) fun ss2 hs2 => hs2 = hs ∧ BC X scope fun Y => GP Y elt ss2 hs (f x))
    (ok : blkC X.N X.env.scope scope own = true := by first | rfl | decide +kernel) (hfs : ∀ x, foldedSetIterable iter X.env x = pure x := by intro _; rfl) (hl : ss.length ≤ X.N.length := by exact Nat.le_of_ble_eq_true rfl) : GLc X (.ListComp elt [⟨tg, iter, [], 0⟩] scope pos) ss hs fun ev h => ev = .d (.list (l.map f)) ∧ h = hs := by
  subst e
  refine glc own hc hN ok (by decide) (hi.run |> fun _ => ⟨fun F G H σ hh sl => ?_⟩) hfs hl
  refine fun pins s I => thn (hi.run F G H σ hh sl pins s I) fun v s1 q => thn q fun itv s2 q => ?_
  obtain ⟨it, fp, tn, J, H1, e1, I1, T, t0, f1, G1, items, hs1, g1, hh1, Y, rfl, rfl⟩ := q
  refine ⟨it, fp, tn, J, H1, e1, I1, T, t0, f1, G1, _, _, g1, hh1, Y, fun i acc h => acc = (l.take i).map f ∧ h = hs1, ⟨rfl, rfl⟩, ?_, ?_⟩
  · rintro i d acc hs' hd ⟨rfl, rfl⟩
    rw [List.getElem?_map] at hd
    obtain ⟨x, q1, rfl⟩ := Option.map_eq_some_iff.mp hd
    obtain ⟨hlt, hx⟩ := List.getElem?_eq_some_iff.mp q1
    refine ⟨by rw [List.length_map, List.length_take]; omega, fun s H C cl fp => ?_⟩
    obtain ⟨run⟩ := hb x (List.mem_of_getElem? q1) s H C cl fp
    refine ⟨fun F' G' H' σ' v' a1 a2 a3 a4 pins' s' u' I' r' => thn (run F' G' H' σ' v' a1 a2 a3 a4 pins' s' u' I' r') fun _ s3 ⟨σ3, H3, I3, ⟨G3, ss3, hs3, g3, hh3, sl3, hl3, e3, q3⟩, ln⟩ => ⟨σ3, H3, I3, ⟨G3, ss3, hs3, g3, hh3, sl3, hl3, ?_⟩, ln⟩⟩
    subst e3
    refine .none ⟨fun _ s H C cl fp => (q3 s H C cl fp).of ⟨f x, rfl, ?_, rfl⟩, fun z => nomatch z⟩
    rw [List.take_add_one, q1, List.map_append]
    rfl
  · rintro acc hs' ⟨rfl, rfl⟩
    refine ⟨?_, rfl⟩
    rw [List.length_map, List.take_length]
theorem gp_lc {α : Type} {elt : Expr} {scope : Scope} {items : List PyData} (own : List (Str × Nat)) (l : List α) (enc : α → PyData) (f : α → PyData) (hc : X.calm = true) (hN : X.N.Nodup) (hi : GIP X tg iter ss hs items) (e : items = l.map enc) (hz : l.length ≤ sizeLine)
    (hb : ∀ x ∈ l, BC X scope fun Y => GG Y tg (.d (enc x)) (wipeS ss (own.map (·.2))) hs (own.map (·.2)) fun ss2 hs2 => hs2 = hs ∧ BC X scope fun Y => GP Y elt ss2 hs (f x))
    (ok : blkC X.N X.env.scope scope own = true := by first | rfl | decide +kernel) (hfs : ∀ x, foldedSetIterable iter X.env x = pure x := by intro _; rfl) (hl : ss.length ≤ X.N.length := by exact Nat.le_of_ble_eq_true rfl) : GP X (.ListComp elt [⟨tg, iter, [], 0⟩] scope pos) ss hs (.list (l.map f)) := (lp_lc own l enc f hc hN hi e hz hb ok hfs hl).val
/-- .. with a test -/
theorem lp_lcIf {α : Type} {elt c : Expr} {scope : Scope} {items : List PyData} (own : List (Str × Nat)) (l : List α) (enc : α → PyData) (f : α → PyData) (p : α → Bool) (hc : X.calm = true) (hN : X.N.Nodup) (hi : GIP X tg iter ss hs items) (e : items = l.map enc) (hz : l.length ≤ sizeLine)
    (hb : ∀ x ∈ l, BC X scope fun Y => GG Y tg (.d (enc x)) (wipeS ss (own.map (·.2))) hs (own.map (·.2)) fun ss2 hs2 => hs2 = hs ∧ BC X scope fun Y => GTP Y c ss2 hs (p x) ∧ (p x = true → GP Y elt ss2 hs (f x)))
    (ok : blkC X.N X.env.scope scope own = true := by first | rfl | decide +kernel) (hfs : ∀ x, foldedSetIterable iter X.env x = pure x := by intro _; rfl) (hl : ss.length ≤ X.N.length := by exact Nat.le_of_ble_eq_true rfl) : GLc X (.ListComp elt [⟨tg, iter, [c], 0⟩] scope pos) ss hs fun ev h => ev = .d (.list ((l.filter p).map f)) ∧ h = hs := by
  subst e
  refine glc own hc hN ok (Nat.le_refl 1) ⟨fun F G H σ hh sl => ?_⟩ hfs hl
  refine fun pins s I => thn (hi.run F G H σ hh sl pins s I) fun v s1 q => thn q fun itv s2 q => ?_
  obtain ⟨it, fp, tn, J, H1, e1, I1, T, t0, f1, G1, items, hs1, g1, hh1, Y, rfl, rfl⟩ := q
  refine ⟨it, fp, tn, J, H1, e1, I1, T, t0, f1, G1, _, _, g1, hh1, Y, fun i acc h => acc = ((l.take i).filter p).map f ∧ h = hs1, ⟨rfl, rfl⟩, ?_, ?_⟩
  · rintro i d acc hs' hd ⟨rfl, rfl⟩
    rw [List.getElem?_map] at hd
    obtain ⟨x, q1, rfl⟩ := Option.map_eq_some_iff.mp hd
    obtain ⟨hlt, hx⟩ := List.getElem?_eq_some_iff.mp q1
    have hsz : (((l.take i).filter p).map f).length < sizeLine := by
      have := List.length_filter_le p (l.take i)
      rw [List.length_take] at this
      rw [List.length_map]
      omega
    refine ⟨hsz, fun s H C cl fp => ?_⟩
    obtain ⟨run⟩ := hb x (List.mem_of_getElem? q1) s H C cl fp
    refine ⟨fun F' G' H' σ' v' a1 a2 a3 a4 pins' s' u' I' r' => thn (run F' G' H' σ' v' a1 a2 a3 a4 pins' s' u' I' r') fun _ s3 ⟨σ3, H3, I3, ⟨G3, ss3, hs3, g3, hh3, sl3, hl3, e3, q3⟩, ln⟩ => ⟨σ3, H3, I3, ⟨G3, ss3, hs3, g3, hh3, sl3, hl3, ?_⟩, ln⟩⟩
    subst e3
    refine .one fun s H C cl fp => ((q3 s H C cl fp).1).of ⟨fun z s H C cl fp => ((q3 s H C cl fp).2 z).of ⟨f x, rfl, ?_, rfl⟩, fun z => ⟨?_, rfl⟩⟩
    · rw [List.take_add_one, q1, List.filter_append, List.map_append]
      show _ = _ ++ (List.filter p [x]).map f
      rw [List.filter_cons, if_pos z]
      rfl
    · rw [List.take_add_one, q1, List.filter_append, List.map_append]
      show _ = _ ++ (List.filter p [x]).map f
      rw [List.filter_cons, z, if_neg Bool.false_ne_true]
      exact (List.append_nil _).symm
  · rintro acc hs' ⟨rfl, rfl⟩
    refine ⟨?_, rfl⟩
    rw [List.length_map, List.take_length]
theorem gp_lcIf {α : Type} {elt c : Expr} {scope : Scope} {items : List PyData} (own : List (Str × Nat)) (l : List α) (enc : α → PyData) (f : α → PyData) (p : α → Bool) (hc : X.calm = true) (hN : X.N.Nodup) (hi : GIP X tg iter ss hs items) (e : items = l.map enc) (hz : l.length ≤ sizeLine)
    (hb : ∀ x ∈ l, BC X scope fun Y => GG Y tg (.d (enc x)) (wipeS ss (own.map (·.2))) hs (own.map (·.2)) fun ss2 hs2 => hs2 = hs ∧ BC X scope fun Y => GTP Y c ss2 hs (p x) ∧ (p x = true → GP Y elt ss2 hs (f x)))
    (ok : blkC X.N X.env.scope scope own = true := by first | rfl | decide +kernel) (hfs : ∀ x, foldedSetIterable iter X.env x = pure x := by intro _; rfl) (hl : ss.length ≤ X.N.length := by exact Nat.le_of_ble_eq_true rfl) : GP X (.ListComp elt [⟨tg, iter, [c], 0⟩] scope pos) ss hs (.list ((l.filter p).map f)) := (lp_lcIf own l enc f p hc hN hi e hz hb ok hfs hl).val
end
end Asl

/-! Asl: calls. -/
namespace Asl
open PySem PySem.Spec L2
open PyProof.Rows hiding St

/-! ### defs -/
/-- what a def does: its arguments, the objects lent to it, what is wanted of its value and of these -/
abbrev FS := List EV → Hs → (EV → Hs → Prop) → Prop
def spOf (K : PySem.W.Frag) (n : Nat) (S : FS) : Sp := fun vs H Q _ => ∃ F G args hs R, HH K F G H hs ∧ Paired (Rv K G) vs args ∧ args.length = n ∧ S args hs R ∧ ∀ v H', EB K F G R v H' → Q v H'
abbrev FnA (P : Program) (w : World) (K : PySem.W.Frag) (mg : Str → Option Value) (base : Heap) (k : Nat) (f : Addr) (fd : FuncData) (ps : List Str) (S : FS) : Prop := FnOk P w K mg base CX0 k f fd ps (spOf K ps.length S)
section
variable {X : Cx} {k : Nat} {f : Addr} {fd : FuncData} {ps : List Str} {S : FS} {x : Str} {p pos : Pos} {e : Expr} {es : List Expr} {ss : Sl} {hs : Hs}
theorem ge_call (G' : FnA X.prog X.w X.K X.mg X.base k f fd ps S) (hr : Room k X.A) (hm : X.mg x = some (.ref f)) (hk : PySem.W.keepIn X.K (.ref f) = true) (hb : Binds X.K fd ps []) {Φ : EV → Hs → Prop}
    (h : GA X (e :: es) ss hs fun evs hs1 => evs.length = ps.length ∧ ∃ hc hr, hs1.Perm (hc ++ hr) ∧ S evs hc fun ev hc' => Φ ev (hc' ++ hr))
    (hg : Gl X x := by rfl) (hdb : (x == ("__debug__" : Str)) = false := by decide) (he : starEach (e :: es) X.env = (false, eval e X.env) :: starEach es X.env := by rfl) (hpl : (backTo pos (starEach es X.env)).any (·.1) = false := by rfl) :
    GE X (.Call (.Name x p) (e :: es) [] pos) ss hs Φ := ⟨fun F G H σ hh sl =>
  we_of (pe_call G' hr hg hm hk hb .nil pass0 pa_wa hdb he hpl) ((h.run F G H σ hh sl).mono fun vs H1 ⟨G1, evs, hs1, g1, hh1, r1, ln, hc, hr', pm, q⟩ => by
    obtain ⟨F2, hh2, back⟩ := hh1.lend pm
    refine ⟨F2, G1, evs, hc, _, hh2, by rw [List.append_nil]; exact r1, ln, q, ?_⟩
    rintro v H' ⟨G2, ev, hc', g2, hh3, r2, q2⟩
    obtain ⟨b1, b2⟩ := back G2 H' hc' g2 hh3
    exact ⟨G2, ev, hc' ++ hr', g1.trans b1, b2, r2, q2⟩)⟩
/-- .. to which nothing is lent -/
theorem ge_call0 (G' : FnA X.prog X.w X.K X.mg X.base k f fd ps S) (hr : Room k X.A) (hm : X.mg x = some (.ref f)) (hk : PySem.W.keepIn X.K (.ref f) = true) (hb : Binds X.K fd ps []) {Φ : EV → Hs → Prop}
    (h : GA X (e :: es) ss hs fun evs hs1 => evs.length = ps.length ∧ S evs [] fun ev hc' => Φ ev (hc' ++ hs1))
    (hg : Gl X x := by rfl) (hdb : (x == ("__debug__" : Str)) = false := by decide) (he : starEach (e :: es) X.env = (false, eval e X.env) :: starEach es X.env := by rfl) (hpl : (backTo pos (starEach es X.env)).any (·.1) = false := by rfl) :
    GE X (.Call (.Name x p) (e :: es) [] pos) ss hs Φ := ge_call G' hr hm hk hb (h.mono fun evs hs1 ⟨q1, q2⟩ => ⟨q1, [], hs1, List.Perm.refl _, q2⟩) hg hdb he hpl
/-- .. to which the first object is lent -/
theorem ge_call1 (G' : FnA X.prog X.w X.K X.mg X.base k f fd ps S) (hr : Room k X.A) (hm : X.mg x = some (.ref f)) (hk : PySem.W.keepIn X.K (.ref f) = true) (hb : Binds X.K fd ps []) {Φ : EV → Hs → Prop}
    (h : GA X (e :: es) ss hs fun evs hs1 => evs.length = ps.length ∧ ∃ o rest, hs1 = o :: rest ∧ S evs [o] fun ev hc' => Φ ev (hc' ++ rest))
    (hg : Gl X x := by rfl) (hdb : (x == ("__debug__" : Str)) = false := by decide) (he : starEach (e :: es) X.env = (false, eval e X.env) :: starEach es X.env := by rfl) (hpl : (backTo pos (starEach es X.env)).any (·.1) = false := by rfl) :
    GE X (.Call (.Name x p) (e :: es) [] pos) ss hs Φ := ge_call G' hr hm hk hb (h.mono fun evs hs1 ⟨q1, o, rest, q3, q2⟩ => ⟨q1, [o], rest, by rw [q3]; exact List.Perm.refl _, q2⟩) hg hdb he hpl
/-- a pure def: its value for these data -/
def Pure (S : FS) (ds : List PyData) (d : PyData) : Prop := ∀ R : EV → Hs → Prop, R (.d d) [] → S (ds.map .d) [] R
theorem gp_call (G' : FnA X.prog X.w X.K X.mg X.base k f fd ps S) (hr : Room k X.A) (hm : X.mg x = some (.ref f)) (hk : PySem.W.keepIn X.K (.ref f) = true) (hb : Binds X.K fd ps []) {ds : List PyData} {d : PyData} (h : GAP X (e :: es) ss hs ds) (q : Pure S ds d) (hl : ds.length = ps.length := by rfl)
    (hg : Gl X x := by rfl) (hdb : (x == ("__debug__" : Str)) = false := by decide) (he : starEach (e :: es) X.env = (false, eval e X.env) :: starEach es X.env := by rfl) (hpl : (backTo pos (starEach es X.env)).any (·.1) = false := by rfl) :
    GP X (.Call (.Name x p) (e :: es) [] pos) ss hs d := ge_call0 G' hr hm hk hb (h.of ⟨by rw [List.length_map]; exact hl, q _ ⟨rfl, rfl⟩⟩) hg hdb he hpl
end
/-- THE RULE for a def: its body -/
theorem fn_ok {P : Program} {w : World} {K : PySem.W.Frag} {mg : Str → Option Value} {base : Heap} {x qual : Str} {st : Stmt} {f : Addr} {fd : FuncData} {N ps : List Str} {k : Nat} {S : FS} (F : Fun K x qual st f fd) (SC : FnScope N ps (defScope st))
    (hbody : ∀ (X : Cx), X.K = K → X.mg = mg → X.prog = P → X.w = w → X.base = base → X.N = N → ∀ (cdv : Value) (A : Around) (outer : List Env) (s : Shared) (H : Hp) (E : XK), X = (cxOf CX0 P w K mg base N qual (defScope st) f cdv A outer s H E).nox → Room k X.A → X.calm = true →
      ∀ args hs R, args.length = ps.length → S args hs R → GSs X (defBody st) (args.map some) hs { nx := fun _ hs' => R (.d .none) hs', rt := R }) : FnA P w K mg base (k + 1) f fd ps S := by
  refine F.ok SC (fun vs H Q E ⟨F, G, args, hs, R, h1, h2, h3, _⟩ => (Paired.length h2).trans h3) fun cdv A outer s H vs Q E hr ⟨F0, G, args, hs, R, h1, h2, h3, h4, h5⟩ => ?_
  have b := hbody _ rfl rfl rfl rfl rfl rfl cdv A outer s H E rfl hr rfl args hs R h3 h4
  have hpl : ps.length ≤ N.length := by
    have q := congrArg List.length SC.pre
    rw [List.length_take] at q
    omega
  have hvl := Paired.length h2
  refine ⟨_, pss_wss, WSs.mono (b.run F0 G H (start N vs) h1 (fun i ev q => ?_) (by rw [List.length_map, h3]; exact hpl)) (fun σ' H' ⟨G', ss', hs', g', hh', _, _, q⟩ => h5 _ _ ⟨G', .d .none, hs', g', hh', Dt.non, q⟩) (fun v H' q => h5 v H' q) (fun _ _ ⟨_, _, _, _, _, _, _, z⟩ => z) (fun _ _ ⟨_, _, _, _, _, _, _, z⟩ => z)⟩
  rw [List.getElem?_map] at q
  obtain ⟨ev0, q1, q2⟩ := Option.map_eq_some_iff.mp q
  cases q2
  have get : ∀ {vs : List V} {evs : List EV} {i : Nat} {ev' : EV}, Paired (Rv K G) vs evs → evs[i]? = some ev' → ∃ v, vs[i]? = some v ∧ Rv K G v ev' := by
    intro vs evs
    induction vs generalizing evs with
    | nil => intro i ev' h q; cases h; simp at q
    | cons v vs ih =>
      intro i ev' h q
      cases h with
      | cons r1 r2 =>
        cases i with
        | zero =>
          have := Option.some.inj (show some _ = some ev' from q)
          subst this
          exact ⟨v, rfl, r1⟩
        | succ i => exact ih r2 q
  obtain ⟨v, q3, r⟩ := get h2 q1
  refine ⟨v, ?_, r⟩
  have hi : i < vs.length := (List.getElem?_eq_some_iff.mp q3).1
  unfold L2.start
  rw [List.getElem?_append_left (by rw [List.length_map]; exact hi), List.getElem?_map, q3]
  rfl

/-! ### built-ins by name, on data -/
structure CallD (X : Cx) (f : Value) (ds : List PyData) (d : PyData) : Prop where
  ex : ∃ r, CallR X f r ∧ ∀ (F G H : Hp) (hs : Hs) (vs : List V) (Q : VK), HH X.K F G H hs → DtAll X.K G vs ds → (∀ z G' H', Grow F G G' → HH X.K F G' H' hs → Dt X.K G' z d → Q z H') → r vs H Q
section
variable {X : Cx} {e : Expr} {es : List Expr} {ss : Sl} {hs : Hs} {pos p : Pos} {x : Str}
theorem ge_bi {id : String} {Φ : EV → Hs → Prop} (hm : X.mg x = none) (hv : bootBuiltins x = some (.builtin id)) (h : GA X (e :: es) ss hs fun evs hs1 => ∃ ds d, evs = ds.map .d ∧ CallD X (.builtin id) ds d ∧ Φ (.d d) hs1) (hg : Gl X x := by rfl) (hn : x ≠ "__name__" := by decide) (hdb : (x == ("__debug__" : Str)) = false := by decide)
    (he : starEach (e :: es) X.env = (false, eval e X.env) :: starEach es X.env := by rfl) (hpl : (backTo pos (starEach es X.env)).any (·.1) = false := by rfl) : GE X (.Call (.Name x p) (e :: es) [] pos) ss hs Φ := ⟨fun F G H σ hh sl => by
  let R : List V → Hp → VK → Prop := fun vs H Q => ∃ r, CallR X (.builtin id) r ∧ r vs H Q
  have hR : CallR X (.builtin id) R := fun pins s σ H xs us Q I rs ⟨r, ho, q⟩ => ho pins s σ H xs us Q I rs q
  refine we_of (pe_callB hR hg hm hv pa_wa hn hdb he hpl) ((h.run F G H σ hh sl).mono fun vs H1 ⟨G1, evs, hs1, g1, hh1, r1, ds, d, e1, ⟨r, ho, rd⟩, k⟩ => ?_)
  subst e1
  exact ⟨r, ho, rd F G1 H1 hs1 vs _ hh1 (paired_d r1) fun z G' H' g' hh' rz => ⟨G', .d d, hs1, g1.trans g', hh', rz, k⟩⟩⟩
theorem ge_ty {T : String} {Φ : EV → Hs → Prop} (hm : X.mg x = none) (hv : bootBuiltins x = some (.type T)) (h : GA X (e :: es) ss hs fun evs hs1 => ∃ ds d, evs = ds.map .d ∧ CallD X (.type T) ds d ∧ Φ (.d d) hs1) (hg : Gl X x := by rfl) (hn : x ≠ "__name__" := by decide) (hdb : (x == ("__debug__" : Str)) = false := by decide)
    (he : starEach (e :: es) X.env = (false, eval e X.env) :: starEach es X.env := by rfl) (hpl : (backTo pos (starEach es X.env)).any (·.1) = false := by rfl) : GE X (.Call (.Name x p) (e :: es) [] pos) ss hs Φ := ⟨fun F G H σ hh sl => by
  let R : List V → Hp → VK → Prop := fun vs H Q => ∃ r, CallR X (.type T) r ∧ r vs H Q
  have hR : CallR X (.type T) R := fun pins s σ H xs us Q I rs ⟨r, ho, q⟩ => ho pins s σ H xs us Q I rs q
  refine we_of (pe_callTy hR hg hm hv pa_wa hn hdb he hpl) ((h.run F G H σ hh sl).mono fun vs H1 ⟨G1, evs, hs1, g1, hh1, r1, ds, d, e1, ⟨r, ho, rd⟩, k⟩ => ?_)
  subst e1
  exact ⟨r, ho, rd F G1 H1 hs1 vs _ hh1 (paired_d r1) fun z G' H' g' hh' rz => ⟨G', .d d, hs1, g1.trans g', hh', rz, k⟩⟩⟩
theorem gp_bi {id : String} {ds : List PyData} {d : PyData} (hm : X.mg x = none) (hv : bootBuiltins x = some (.builtin id)) (h : GAP X (e :: es) ss hs ds) (c : CallD X (.builtin id) ds d) (hg : Gl X x := by rfl) (hn : x ≠ "__name__" := by decide) (hdb : (x == ("__debug__" : Str)) = false := by decide)
    (he : starEach (e :: es) X.env = (false, eval e X.env) :: starEach es X.env := by rfl) (hpl : (backTo pos (starEach es X.env)).any (·.1) = false := by rfl) : GP X (.Call (.Name x p) (e :: es) [] pos) ss hs d := ge_bi hm hv (h.of ⟨ds, d, rfl, c, rfl, rfl⟩) hg hn hdb he hpl
theorem gp_ty {T : String} {ds : List PyData} {d : PyData} (hm : X.mg x = none) (hv : bootBuiltins x = some (.type T)) (h : GAP X (e :: es) ss hs ds) (c : CallD X (.type T) ds d) (hg : Gl X x := by rfl) (hn : x ≠ "__name__" := by decide) (hdb : (x == ("__debug__" : Str)) = false := by decide)
    (he : starEach (e :: es) X.env = (false, eval e X.env) :: starEach es X.env := by rfl) (hpl : (backTo pos (starEach es X.env)).any (·.1) = false := by rfl) : GP X (.Call (.Name x p) (e :: es) [] pos) ss hs d := ge_ty hm hv (h.of ⟨ds, d, rfl, c, rfl, rfl⟩) hg hn hdb he hpl

theorem dtA_one {K G} {vs : List V} {d : PyData} (h : DtAll K G vs [d]) : ∃ v, vs = [v] ∧ Dt K G v d := by
  cases h with
  | cons h1 h2 => cases h2; exact ⟨_, rfl, h1⟩
theorem dtA_two {K G} {vs : List V} {d e : PyData} (h : DtAll K G vs [d, e]) : ∃ v w, vs = [v, w] ∧ Dt K G v d ∧ Dt K G w e := by
  cases h with
  | cons h1 h2 =>
    obtain ⟨w, rfl, r⟩ := dtA_one h2
    exact ⟨_, w, rfl, h1, r⟩
/-- a call of one sequence that gives a value and leaves all as it was -/
theorem sq_or {t : Bool} {K H a} {us : List V} (h : Sq t K H a us) : SqL K H a us ∨ SqT K H a us := by
  cases t with
  | true => exact .inr h
  | false => exact .inl h
theorem k_len {t : Bool} {xs : List PyData} : CallD X (.builtin "len") [dq t xs] (.int xs.length) := ⟨_, call_len_seq, fun F G H hs vs Q hh r k => by
  obtain ⟨v, rfl, r1⟩ := dtA_one r
  obtain ⟨a, us, rfl, s, kk⟩ := dt_sq r1
  refine ⟨a, us, rfl, sq_or (sq_mono hh.g s), ?_⟩
  rw [dpA_len kk]
  exact k _ G H (Grow.refl _ _) hh (.int _)⟩
theorem k_lenT {xs : List PyData} : CallD X (.builtin "len") [.tuple xs] (.int xs.length) := k_len (t := true)
theorem k_lenL {xs : List PyData} : CallD X (.builtin "len") [.list xs] (.int xs.length) := k_len (t := false)
theorem k_tupL {xs : List PyData} : CallD X (.type "tuple") [.list xs] (.tuple xs) := ⟨_, call_tuple_of, fun F G H hs vs Q hh r k => by
  obtain ⟨v, rfl, r1⟩ := dtA_one r
  obtain ⟨a, us, rfl, s, kk⟩ := dt_sq (t := false) r1
  refine ⟨a, us, rfl, .inl ⟨sqL_mono hh.g s, fun l nl => ?_⟩⟩
  obtain ⟨g, hh'⟩ := hh.data (o := .tup us) nl
  exact k _ _ _ g hh' (.tup (.inl (.inl upd_same)) (dpA_mono g.up _ _ kk))⟩
theorem k_tupT {xs : List PyData} : CallD X (.type "tuple") [.tuple xs] (.tuple xs) := ⟨_, call_tuple_of, fun F G H hs vs Q hh r k => by
  obtain ⟨v, rfl, r1⟩ := dtA_one r
  obtain ⟨a, us, rfl, s, kk⟩ := dt_sq (t := true) r1
  exact ⟨a, us, rfl, .inr ⟨sqT_mono hh.g s, k _ G H (Grow.refl _ _) hh (.tup s kk)⟩⟩⟩
theorem k_list {t : Bool} {xs : List PyData} : CallD X (.type "list") [dq t xs] (.list xs) := ⟨_, call_list_of, fun F G H hs vs Q hh r k => by
  obtain ⟨v, rfl, r1⟩ := dtA_one r
  obtain ⟨a, us, rfl, s, kk⟩ := dt_sq r1
  refine ⟨a, us, rfl, sq_or (sq_mono hh.g s), fun l nl => ?_⟩
  obtain ⟨g, hh'⟩ := hh.data (o := .lst us) nl
  exact k _ _ _ g hh' (.lst upd_same (dpA_mono g.up _ _ kk))⟩
theorem k_listT {xs : List PyData} : CallD X (.type "list") [.tuple xs] (.list xs) := k_list (t := true)
theorem k_listL {xs : List PyData} : CallD X (.type "list") [.list xs] (.list xs) := k_list (t := false)
theorem k_abs {i : Int} : CallD X (.builtin "abs") [.int i] (.int (if i < 0 then -i else i)) := ⟨_, call_abs, fun F G H hs vs Q hh r k => by
  obtain ⟨v, rfl, r1⟩ := dtA_one r
  cases r1
  exact ⟨i, rfl, k _ G H (Grow.refl _ _) hh (.int _)⟩⟩
theorem k_int {i : Int} : CallD X (.type "int") [.int i] (.int i) := ⟨_, call_int1, fun F G H hs vs Q hh r k => by
  obtain ⟨v, rfl, r1⟩ := dtA_one r
  cases r1
  exact .inl ⟨i, rfl, k _ G H (Grow.refl _ _) hh (.int _)⟩⟩
theorem k_intB {b : Bool} : CallD X (.type "int") [.bool b] (.int (if b then 1 else 0)) := ⟨_, call_int1, fun F G H hs vs Q hh r k => by
  obtain ⟨v, rfl, r1⟩ := dtA_one r
  cases r1
  exact .inr ⟨b, rfl, k _ G H (Grow.refl _ _) hh (.int _)⟩⟩
theorem k_max2 (hc : X.calm = true) {i j : Int} : CallD X (.builtin "max") [.int i, .int j] (.int (max i j)) := ⟨_, call_max2 hc, fun F G H hs vs Q hh r k => by
  obtain ⟨v, w, rfl, r1, r2⟩ := dtA_two r
  cases r1
  cases r2
  refine ⟨i, j, rfl, ?_⟩
  have e : (if j > i then j else i) = max i j := by
    rw [Int.max_def]
    split <;> split <;> omega
  rw [e]
  exact k _ G H (Grow.refl _ _) hh (.int _)⟩
theorem k_min2 (hc : X.calm = true) {i j : Int} : CallD X (.builtin "min") [.int i, .int j] (.int (min i j)) := ⟨_, call_min2 hc, fun F G H hs vs Q hh r k => by
  obtain ⟨v, w, rfl, r1, r2⟩ := dtA_two r
  cases r1
  cases r2
  refine ⟨i, j, rfl, ?_⟩
  have e : (if j < i then j else i) = min i j := by
    rw [Int.min_def]
    split <;> split <;> omega
  rw [e]
  exact k _ G H (Grow.refl _ _) hh (.int _)⟩
theorem k_all (hc : X.calm = true) {bs : List Bool} : CallD X (.builtin "all") [.list (bs.map .bool)] (.bool (bs.all id)) := ⟨_, cr_all hc, fun F G H hs vs Q hh r k => by
  obtain ⟨v, rfl, r1⟩ := dtA_one r
  obtain ⟨a, us, rfl, s, kk⟩ := dt_sq (t := false) r1
  have e := dpA_bools kk
  subst e
  exact ⟨a, bs, rfl, sqL_mono hh.g s, k _ G H (Grow.refl _ _) hh (.bl _)⟩⟩
theorem k_any (hc : X.calm = true) {bs : List Bool} : CallD X (.builtin "any") [.list (bs.map .bool)] (.bool (bs.any id)) := ⟨_, cr_any hc, fun F G H hs vs Q hh r k => by
  obtain ⟨v, rfl, r1⟩ := dtA_one r
  obtain ⟨a, us, rfl, s, kk⟩ := dt_sq (t := false) r1
  have e := dpA_bools kk
  subst e
  exact ⟨a, bs, rfl, sqL_mono hh.g s, k _ G H (Grow.refl _ _) hh (.bl _)⟩⟩
end

/-! ### sum, max, min over a list or a tuple of ints -/
theorem src_walks {t : Bool} {prog : Program} {w : World} {A : Around} (hh : A.handled = none) (it a : Addr) (ne : a ≠ it) (its : Array Value) :
    Walks prog w A it [it, a] [it] its.size (fun i v => its[i]? = some v) (fun i h => ItAt t h it a i ∧ SrcAt t h a its) := by
  cases t with
  | true => exact Walks.tuple hh it a ne its
  | false => exact Walks.list hh it a ne its
section
variable {prog : Program} {w : World} {A : Around} {E : Value → Shared → Prop} {s : Shared} {t : Bool} {a : Addr} {its : List Value} {ns : List Int}
/-- an iterator over a source begins -/
theorem src_iter {its : Array Value} {Q : Value → Shared → Prop} (hl : SrcAt t s.heap a its)
    (h : (ItAt t (s.heap.push (itObj t a)) s.heap.objs.size a 0 ∧ SrcAt t (s.heap.push (itObj t a)) a its) → (∀ b ∈ [s.heap.objs.size, a], b < (s.heap.push (itObj t a)).objs.size) → a ≠ s.heap.objs.size → Q (.ref s.heap.objs.size) { s with heap := s.heap.push (itObj t a) }) :
    wpAny (model prog w) A (pyIter (.ref a)) Q E s := by
  have lt := src_lt hl
  have B := src_begins (t := t) a its
  refine B.iter prog w A E s Q hl (h ⟨it_zero (Heap.get?_push_size _ B.free), B.keeps _ _ hl fun b o e => Heap.get?_push_of_some _ e⟩ (fun b hb => ?_) (Nat.ne_of_lt lt))
  rw [Heap.size_push]
  rcases List.mem_cons.mp hb with e | hb
  · rw [e]; exact Nat.lt_succ_self _
  · rw [List.mem_singleton.mp hb]; exact Nat.lt_succ_of_lt lt
theorem stood {o : Obj} {h' : Heap} (k : ∀ b u, b ∉ [s.heap.objs.size] → (s.heap.push o).get? b = some u → h'.get? b = some u) : ∀ b u, s.heap.get? b = some u → h'.get? b = some u := fun b u e =>
  k b u (fun m => absurd (List.mem_singleton.mp m ▸ Heap.lt_size e) (Nat.lt_irrefl _)) (Heap.get?_push_of_some _ e)
theorem sum_src {Q : Value → Shared → Prop} (hh : A.handled = none) (hl : SrcAt t s.heap a its.toArray) (hi : IntsAre its ns) (h : ∀ h' tk t', (∀ b o, s.heap.get? b = some o → h'.get? b = some o) → Q (.int ns.sum t') { s with heap := h', toks := tk }) :
    wpAny (model prog w) A (call (.builtin "sum") [.ref a]) Q E s := by
  obtain ⟨xs, e⟩ := hi.allInts.items
  have hn : xs.toList.map (·.1) = ns := by rw [← nums_intItems, ← e]; exact hi.numsOf
  rw [e] at hl
  refine call_sum_walkG (src_iter hl fun st lts ne => ⟨_, _, _, _, _, _, numAt xs, rfl, src_walks (A := A.in1) hh _ a ne (intItems xs), st, lts, fun _ _ => intItems_at, fun h' tk t' hk => ?_⟩)
  have q := h h' tk t' (stood hk)
  have e2 : (intItems xs).size = (xs.toList.map (·.1)).length := by simp [intItems]
  rw [preSum_eq, e2, List.take_length, hn]
  exact q
theorem max_src {Q : Value → Shared → Prop} (hh : A.handled = none) (hl : SrcAt t s.heap a its.toArray) (hi : IntsAre its ns) (hne : 0 < ns.length) (h : ∀ h' tk M t', (∀ b o, s.heap.get? b = some o → h'.get? b = some o) → M ∈ ns → (∀ y, y ∈ ns → y ≤ M) → Q (.int M t') { s with heap := h', toks := tk }) :
    wpAny (model prog w) A (call (.builtin "max") [.ref a]) Q E s := by
  obtain ⟨xs, e⟩ := hi.allInts.items
  have hn : xs.toList.map (·.1) = ns := by rw [← nums_intItems, ← e]; exact hi.numsOf
  subst hn
  rw [e] at hl
  have sz : 0 < xs.size := by simpa using hne
  refine call_max_walk (src_iter hl fun st lts ne => ⟨_, _, _, _, _, _, _, rfl, src_walks (A := A.in1) hh _ a ne (intItems xs), st, lts, by simpa [intItems] using sz, CmpOf.ints_gt (numAt xs) (fun _ _ => intItems_at), fun v h' tk hP hk => ?_⟩)
  obtain ⟨t', rfl⟩ := intItems_at hP
  have e2 : (intItems xs).size = xs.size := by simp [intItems]
  obtain ⟨h1, h2⟩ := argBest_gt (numAt xs) (xs.size - 1)
  rw [e2]
  refine h h' tk _ t' (stood hk) ?_ fun y hy => ?_
  · rw [numAt_eq]
    exact PySem.getD_mem (by rw [List.length_map, Array.length_toList]; omega)
  · obtain ⟨j, hj, rfl⟩ := PySem.mem_getD hy
    rw [List.length_map, Array.length_toList] at hj
    rw [← numAt_eq]
    exact h2 j (by omega)
theorem min_src {Q : Value → Shared → Prop} (hh : A.handled = none) (hl : SrcAt t s.heap a its.toArray) (hi : IntsAre its ns) (hne : 0 < ns.length) (h : ∀ h' tk M t', (∀ b o, s.heap.get? b = some o → h'.get? b = some o) → M ∈ ns → (∀ y, y ∈ ns → M ≤ y) → Q (.int M t') { s with heap := h', toks := tk }) :
    wpAny (model prog w) A (call (.builtin "min") [.ref a]) Q E s := by
  obtain ⟨xs, e⟩ := hi.allInts.items
  have hn : xs.toList.map (·.1) = ns := by rw [← nums_intItems, ← e]; exact hi.numsOf
  subst hn
  rw [e] at hl
  have sz : 0 < xs.size := by simpa using hne
  refine call_min_walk (src_iter hl fun st lts ne => ⟨_, _, _, _, _, _, _, rfl, src_walks (A := A.in1) hh _ a ne (intItems xs), st, lts, by simpa [intItems] using sz, CmpOf.ints_lt (numAt xs) (fun _ _ => intItems_at), fun v h' tk hP hk => ?_⟩)
  obtain ⟨t', rfl⟩ := intItems_at hP
  have e2 : (intItems xs).size = xs.size := by simp [intItems]
  obtain ⟨h1, h2⟩ := argBest_lt (numAt xs) (xs.size - 1)
  rw [e2]
  refine h h' tk _ t' (stood hk) ?_ fun y hy => ?_
  · rw [numAt_eq]
    exact PySem.getD_mem (by rw [List.length_map, Array.length_toList]; omega)
  · obtain ⟨j, hj, rfl⟩ := PySem.mem_getD hy
    rw [List.length_map, Array.length_toList] at hj
    rw [← numAt_eq]
    exact h2 j (by omega)
end
section
variable {X : Cx} {t : Bool} {ns : List Int}
def rSq (X : Cx) (t : Bool) (k : List Int → Int → Prop) : List V → Hp → VK → Prop := fun vs H Q => ∃ (a : Addr) (ns : List Int), vs = [.ref a] ∧ Sq t X.K H a (ns.map .int) ∧ 0 < ns.length ∧ ∀ m, k ns m → Q (.int m) H
theorem k_sum (hc : X.calm = true) : CallD X (.builtin "sum") [dq t (ns.map .int)] (.int ns.sum) := by
  refine ⟨fun vs H Q => ∃ (a : Addr) (ns : List Int), vs = [.ref a] ∧ Sq t X.K H a (ns.map .int) ∧ Q (.int ns.sum) H, ?_, fun F G H hs vs Q hh r k => ?_⟩
  · intro pins s σ H vs us Q I r h
    obtain ⟨a, ns, rfl, hs, q⟩ := h
    obtain ⟨its, rv, hl, _⟩ := sq_src I hs
    rw [Vals.ref1 r]
    exact sum_src (I.ok.hd hc) hl rv.ints fun h' tk t' hk => ⟨.int _, H, I.kept hk, ⟨_, rfl⟩, q⟩
  · obtain ⟨v, rfl, r1⟩ := dtA_one r
    obtain ⟨a, us, rfl, s, kk⟩ := dt_sq r1
    have e := dpA_ints kk
    subst e
    exact ⟨a, ns, rfl, sq_mono hh.g s, k _ G H (Grow.refl _ _) hh (.int _)⟩
theorem k_sumL (hc : X.calm = true) : CallD X (.builtin "sum") [.list (ns.map .int)] (.int ns.sum) := k_sum (t := false) hc
theorem k_sumT (hc : X.calm = true) : CallD X (.builtin "sum") [.tuple (ns.map .int)] (.int ns.sum) := k_sum (t := true) hc
/-- the least, the greatest of a list -/
def minI : List Int → Int
  | [] => 0
  | [x] => x
  | x :: xs => min x (minI xs)
def maxI : List Int → Int
  | [] => 0
  | [x] => x
  | x :: xs => max x (maxI xs)
theorem minI_le : ∀ {l : List Int} {y : Int}, y ∈ l → minI l ≤ y
  | [x], y, h => by
    rw [List.mem_singleton.mp h]
    exact Int.le_refl _
  | x :: z :: r, y, h => by
    show min x (minI (z :: r)) ≤ y
    rcases List.mem_cons.mp h with e | h
    · rw [e]; exact Int.min_le_left _ _
    · exact Int.le_trans (Int.min_le_right _ _) (minI_le h)
theorem le_maxI : ∀ {l : List Int} {y : Int}, y ∈ l → y ≤ maxI l
  | [x], y, h => by
    rw [List.mem_singleton.mp h]
    exact Int.le_refl _
  | x :: z :: r, y, h => by
    show y ≤ max x (maxI (z :: r))
    rcases List.mem_cons.mp h with e | h
    · rw [e]; exact Int.le_max_left _ _
    · exact Int.le_trans (le_maxI h) (Int.le_max_right _ _)
theorem minI_mem : ∀ {l : List Int}, 0 < l.length → minI l ∈ l
  | [x], _ => List.mem_singleton.mpr rfl
  | x :: z :: r, _ => by
    show min x (minI (z :: r)) ∈ _
    rw [Int.min_def]
    split
    · exact List.mem_cons_self
    · exact List.mem_cons_of_mem _ (minI_mem (Nat.succ_pos _))
theorem maxI_mem : ∀ {l : List Int}, 0 < l.length → maxI l ∈ l
  | [x], _ => List.mem_singleton.mpr rfl
  | x :: z :: r, _ => by
    show max x (maxI (z :: r)) ∈ _
    rw [Int.max_def]
    split
    · exact List.mem_cons_of_mem _ (maxI_mem (Nat.succ_pos _))
    · exact List.mem_cons_self
theorem k_min (hc : X.calm = true) (hn : 0 < ns.length) : CallD X (.builtin "min") [dq t (ns.map .int)] (.int (minI ns)) := by
  refine ⟨rSq X t fun ns m => m ∈ ns ∧ ∀ y ∈ ns, m ≤ y, ?_, fun F G H hs vs Q hh r k => ?_⟩
  · intro pins s σ H vs us Q I r h
    obtain ⟨a, ns, rfl, hs, hn, q⟩ := h
    obtain ⟨its, rv, hl, _⟩ := sq_src I hs
    rw [Vals.ref1 r]
    exact min_src (I.ok.hd hc) hl rv.ints hn fun h' tk m t' hk h1 h2 => ⟨.int m, H, I.kept hk, ⟨_, rfl⟩, q m ⟨h1, h2⟩⟩
  · obtain ⟨v, rfl, r1⟩ := dtA_one r
    obtain ⟨a, us, rfl, s, kk⟩ := dt_sq r1
    have e := dpA_ints kk
    subst e
    refine ⟨a, ns, rfl, sq_mono hh.g s, hn, fun m ⟨h1, h2⟩ => ?_⟩
    have e : m = minI ns := Int.le_antisymm (h2 _ (minI_mem hn)) (minI_le h1)
    subst e
    exact k _ G H (Grow.refl _ _) hh (.int _)
theorem k_max (hc : X.calm = true) (hn : 0 < ns.length) : CallD X (.builtin "max") [dq t (ns.map .int)] (.int (maxI ns)) := by
  refine ⟨rSq X t fun ns m => m ∈ ns ∧ ∀ y ∈ ns, y ≤ m, ?_, fun F G H hs vs Q hh r k => ?_⟩
  · intro pins s σ H vs us Q I r h
    obtain ⟨a, ns, rfl, hs, hn, q⟩ := h
    obtain ⟨its, rv, hl, _⟩ := sq_src I hs
    rw [Vals.ref1 r]
    exact max_src (I.ok.hd hc) hl rv.ints hn fun h' tk m t' hk h1 h2 => ⟨.int m, H, I.kept hk, ⟨_, rfl⟩, q m ⟨h1, h2⟩⟩
  · obtain ⟨v, rfl, r1⟩ := dtA_one r
    obtain ⟨a, us, rfl, s, kk⟩ := dt_sq r1
    have e := dpA_ints kk
    subst e
    refine ⟨a, ns, rfl, sq_mono hh.g s, hn, fun m ⟨h1, h2⟩ => ?_⟩
    have e : m = maxI ns := Int.le_antisymm (le_maxI h1) (h2 _ (maxI_mem hn))
    subst e
    exact k _ G H (Grow.refl _ _) hh (.int _)
end

/-! ### isinstance -/
def tyName : PyData → String
  | .none => "NoneType" | .bool _ => "bool" | .int _ => "int" | .str _ => "str" | .list _ => "list" | .tuple _ => "tuple" | .dict _ => "dict"
def isB (d : PyData) (T : String) : Bool := (tyName d == T) || (tyName d == "bool" && T == "int")
theorem dt_ty {K G H v} {d : PyData} (e : Same G H) (h : Dt K G v d) : TyX K H v (.type (tyName d)) := by
  cases h with
  | non => exact .base .non
  | bl b => exact .base (.bl b)
  | int i => exact .base (.int i)
  | str x => exact .base (.str x)
  | lst h k => exact .base (.lst (e _ _ h))
  | tup h k =>
    rcases h with (h | ⟨o, h⟩) | ⟨o, its, n, h, c, _⟩
    · exact .base (.tup (e _ _ h))
    · exact .fTuple (e _ _ h)
    · exact .kTuple h c
def tyT (T : String) : Prop := ∀ d : PyData, (∀ kvs, d ≠ .dict kvs) → kitB (tyName d) T = some (isB d T)
theorem tyT_of {T : String} (h : (["NoneType", "bool", "int", "str", "list", "tuple"].all fun n => kitB n T == some ((n == T) || (n == "bool" && T == "int"))) = true) : tyT T := fun d nd => by
  simp only [List.all_cons, List.all_nil, Bool.and_true, Bool.and_eq_true, beq_iff_eq] at h
  obtain ⟨h1, h2, h3, h4, h5, h6⟩ := h
  cases d with
  | none => exact h1
  | bool b => exact h2
  | int i => exact h3
  | str x => exact h4
  | list xs => exact h5
  | tuple xs => exact h6
  | dict kvs => exact absurd rfl (nd kvs)
theorem ty_int : tyT "int" := tyT_of (by decide +kernel)
theorem ty_bool : tyT "bool" := tyT_of (by decide +kernel)
theorem ty_tuple : tyT "tuple" := tyT_of (by decide +kernel)
theorem ty_str : tyT "str" := tyT_of (by decide +kernel)
theorem ty_list : tyT "list" := tyT_of (by decide +kernel)
section
variable {X : Cx} {a : Expr} {ss : Sl} {hs : Hs} {pos p p2 : Pos} {T : Str} {n : String}
theorem ge_isi {Φ : EV → Hs → Prop} (hm : X.mg "isinstance" = none) (hm2 : X.mg T = none) (hv : bootBuiltins T = some (.type n)) (ht : tyT n) (h : GE X a ss hs fun ev hs1 => ∃ d, ev = .d d ∧ Φ (.d (.bool (isB d n))) hs1)
    (hg : Gl X "isinstance" := by rfl) (hg2 : Gl X T := by rfl) (hn : T ≠ "__name__" := by decide) (hdb : (T == ("__debug__" : Str)) = false := by decide)
    (he : starEach [a, .Name T p2] X.env = (false, eval a X.env) :: starEach [.Name T p2] X.env := by rfl) (he2 : starEach [.Name T p2] X.env = (false, eval (.Name T p2) X.env) :: starEach [] X.env := by rfl) (hpl : (backTo pos (starEach [.Name T p2] X.env)).any (·.1) = false := by rfl) :
    GE X (.Call (.Name "isinstance" p) [a, .Name T p2] [] pos) ss hs Φ := ⟨fun F G H σ hh sl =>
  we_of (pe_callB call_isi hg hm (by decide +kernel) (pa_cons pe_we (pa_cons (pe_bltn (v := .ty n) hg2 hm2 hv rfl hn hdb) pa_nil he2) he) (by decide) (by decide) he hpl) ((h.run F G H σ hh sl).mono fun v H1 ⟨G1, ev, hs1, g1, hh1, r1, d, e1, q⟩ => by
    subst e1
    have r1 : Dt X.K G1 v d := r1
    refine ⟨v, .ty n, _, _, isB d n, rfl, .ty n, dt_ty hh1.g r1, kit_ty (ht d fun kvs z => ?_), G1, .d (.bool (isB d n)), hs1, g1, hh1, Dt.bl _, q⟩
    subst z
    cases r1)⟩
theorem gp_isi {d : PyData} (hm : X.mg "isinstance" = none) (hm2 : X.mg T = none) (hv : bootBuiltins T = some (.type n)) (ht : tyT n) (h : GP X a ss hs d)
    (hg : Gl X "isinstance" := by rfl) (hg2 : Gl X T := by rfl) (hn : T ≠ "__name__" := by decide) (hdb : (T == ("__debug__" : Str)) = false := by decide)
    (he : starEach [a, .Name T p2] X.env = (false, eval a X.env) :: starEach [.Name T p2] X.env := by rfl) (he2 : starEach [.Name T p2] X.env = (false, eval (.Name T p2) X.env) :: starEach [] X.env := by rfl) (hpl : (backTo pos (starEach [.Name T p2] X.env)).any (·.1) = false := by rfl) :
    GP X (.Call (.Name "isinstance" p) [a, .Name T p2] [] pos) ss hs (.bool (isB d n)) := ge_isi hm hm2 hv ht (h.of ⟨d, rfl, rfl, rfl⟩) hg hg2 hn hdb he he2 hpl
end
end Asl

/-! Asl: sorted of lists and tuples of data; slices; membership; other operators. -/
namespace Asl
open PySem PySem.Spec L2 PySem.W
open PyProof.Rows hiding St

section
variable {prog : Program} {w : World} {A : Around} {E : Value → Shared → Prop} {s : Shared} {t : Bool} {a : Addr} {vs : List Value}
theorem collect_src {Q : List Value → Shared → Prop} (hl : SrcAt t s.heap a vs.toArray) (hz : vs.length ≤ sizeLine)
    (h : Q vs { s with heap := (s.heap.push (seqObj "list" #[] 0)).update s.heap.objs.size (Obj.mapSeq (· ++ vs.toArray)) }) : wpAny (model prog w) A (collect (.ref a)) Q E s := by
  cases t with
  | false => exact collect_list hl h hz
  | true =>
    obtain ⟨o, ho, hc, n, hd⟩ := id hl
    unfold collect
    refine wpAny_bind (wpAny_runValue (codeAny_builtin entry_proto_collect' ?_))
    show wpAny _ _ (do again (.builtin "list.__iadd__" ⟨[← newList [], .ref a], []⟩)) _ _ s
    refine wpAny_bind (wpAny_newList (wpAny_pure ⟨Code.quiet_builtin _ (by decide +kernel), codeAny_builtin entry_list_iadd' ?_⟩))
    show wpAny _ _ (Builtin.List.listExtendWith (.ref s.heap.objs.size) (.ref a) (.ref s.heap.objs.size)) _ _ { s with heap := s.heap.push (seqObj "list" #[] 0) }
    have h1 : (s.heap.push (seqObj "list" #[] 0)).get? a = some o := Heap.get?_push_of_some _ ho
    have h2 : (s.heap.push (seqObj "list" #[] 0)).get? s.heap.objs.size = some (seqObj "list" #[] 0) := Heap.get?_push_size _ rfl
    unfold Builtin.List.listExtendWith
    refine wpAny_bind (wpAny_typeOf (T := "tuple") ⟨o, h1, hc⟩ ?_)
    rw [if_pos (by rw [show (Value.type "tuple" == Value.type "tuple") = true from rfl, Bool.or_true])]
    refine wpAny_bind (listItems_at h1 hd (wpAny_bind (listItems_at (xs := #[]) (n := 0) h2 rfl ?_)))
    rw [if_neg (by simp)]
    refine wpAny_bind (listUpdate_at (xs := #[]) (n := 0) h2 rfl (wpAny_pure ?_) (Nat.zero_le _) ?_)
    · show wpAny (model prog w) A (do
          let o ← load s.heap.objs.size
          match o.data with
          | .seq xs _ => pure xs.toList
          | _ => unsupported "internal:collect") Q E { s with heap := (s.heap.push (seqObj "list" #[] 0)).update s.heap.objs.size (Obj.mapSeq (· ++ vs.toArray)) }
      refine wpAny_bind (wpAny_load (get?_update_seq h2 _) ?_)
      have e : ((#[] : Array Value) ++ vs.toArray).toList = vs := by simp
      show wpAny _ _ (pure ((#[] : Array Value) ++ vs.toArray).toList) Q E _
      rw [e]
      exact wpAny_pure h
    · show (#[] ++ vs.toArray).size ≤ sizeLine + 1
      simp only [Array.size_append, List.size_toArray, List.length_nil]
      omega
theorem sorted_src {kw : List (Str × Value)} {Q : Value → Shared → Prop} (hl : SrcAt t s.heap a vs.toArray) (hz : vs.length ≤ sizeLine) (ha1 : argsOk "sorted" ⟨[.ref a], kw⟩) (ha2 : ∀ x, argsOk "list.sort" ⟨[.ref x], kw⟩)
    (body : ∀ E' : Value → Shared → Prop, wpAny (model prog w) A.in1.in1 (Builtin.«list.sort» ⟨[.ref (s.heap.objs.size + 1)], kw⟩) (fun f s' => f = .done (.ret .none) ∧ Q (.ref (s.heap.objs.size + 1)) s') E' { s with heap := copyHeap s.heap vs }) :
    wpAny (model prog w) A (call (.builtin "sorted") [.ref a] kw) Q E s := by
  refine call_function_entry_kw kind_sorted plain_sorted entry_sorted ha1 ?_
  unfold Builtin.«sorted»
  refine wpAny_bind (m := checkCount "sorted" 1 1 _) (wpAny_pure (wpAny_bind (collect_src hl hz (wpAny_bind (wpAny_newList ?_ hz)))))
  have e : ((s.heap.push (seqObj "list" #[] 0)).update s.heap.objs.size (Obj.mapSeq (· ++ vs.toArray))).objs.size = s.heap.objs.size + 1 := by rw [Heap.size_update, size_push']
  show wpAny _ _ _ _ _ { s with heap := copyHeap s.heap vs }
  rw [e]
  refine wpAny_bind (wpAny_holding (wpAny_call_entry_kw slot_list_sort ⟨_, copyHeap_at s.heap vs, rfl⟩ entry_list_sort ?g (ha2 _)))
  case g =>
    show wpAny (model prog w) A.in1.in1 (Builtin.«list.sort» ⟨[.ref (s.heap.objs.size + 1)], kw⟩) _ _ _
    exact wpAny_mono (body _) (fun f s' ⟨e1, q⟩ => by subst e1; exact ⟨_, rfl, wpAny_pure ⟨_, rfl, q⟩⟩) fun _ _ z => z
end
section
variable {β : Type} {enc : β → PyData} {bs : List β}
theorem each_map_inv {R : Value → PyData → Prop} : ∀ {us : List Value} {bs : List β}, EachIs R us (bs.map enc) → EachIs (fun u b => R u (enc b)) us bs
  | _, [], h => by cases h; exact .nil
  | _, b :: bs, h => by
    cases h with
    | cons h1 h2 => exact .cons h1 (each_map_inv h2)
theorem each_of {K : PySem.W.Frag} {H : Hp} : ∀ {xs : List V} {us : List Value} {bs : List β}, Vals xs us → DtAll K H xs (bs.map enc) → EachIs (fun u b => ∃ v, RelV v u ∧ Dt K H v (enc b)) us bs
  | [], _, [], r, _ => by cases r; exact .nil
  | _ :: _, _, b :: bs, r, k => by
    cases r with
    | cons r1 r2 =>
      cases k with
      | cons k1 k2 => exact .cons ⟨_, r1, k1⟩ (each_of r2 k2)
  | [], _, _ :: _, _, k => by cases k
  | _ :: _, _, [], _, k => by cases k
theorem of_each {K : PySem.W.Frag} {H : Hp} : ∀ {us : List Value} {bs : List β}, EachIs (fun u b => ∃ v, RelV v u ∧ Dt K H v (enc b)) us bs → ∃ xs, Vals xs us ∧ DtAll K H xs (bs.map enc)
  | _, _, .nil => ⟨[], .nil, .nil⟩
  | _, _, .cons ⟨v, r, k⟩ h => by
    obtain ⟨xs, r2, k2⟩ := of_each h
    exact ⟨v :: xs, .cons r r2, .cons k k2⟩
theorem each_reads {X : Cx} {pins : List (Addr × Obj)} {σ : L2.St} {G H : Hp} {s : Shared} (I : Inv X pins σ H s) (g : Same G H) {us : List Value} {bs : List β} (e : EachIs (fun u b => ∃ v, RelV v u ∧ Dt X.K G v (enc b)) us bs) : EachIs (fun u b => ∃ as, Reads s.heap u (enc b) as) us bs :=
  e.mono fun u b ⟨v, r, k⟩ => Dp.reads I (enc b) v u (Dt.dp _ _ (dp_mono g _ _ k)) r
/-- what sorted needs of the data -/
structure Sorts (enc : β → PyData) (bs : List β) : Prop where
  al : AllAlike (bs.map enc)
  so : Sortable (bs.map enc)
  dp : ∀ b ∈ bs, (enc b).depth ≤ 60
def rSrt (K : PySem.W.Frag) (t : Bool) (bs : List PyData) (out : List PyData) : List V → Hp → VK → Prop := fun vs H Q => ∃ a us G, vs = [.ref a] ∧ Sq t K H a us ∧ Same G H ∧ DtAll K G us bs ∧ ∀ xs p, DtAll K G xs out → H p = none → Q (.ref p) (upd H p (.lst xs))
theorem srt_end {X : Cx} {pins : List (Addr × Obj)} {σ : L2.St} {G H : Hp} {s : Shared} {Q : VK} {us out : List Value} (I : Inv X pins σ H s) {bs cs : List β} (hz : bs.length ≤ sizeLine) (hl : out.length = bs.length) (e : EachIs (fun u b => ∃ v, RelV v u ∧ Dt X.K G v (enc b)) out cs)
    (q : ∀ xs p, DtAll X.K G xs (cs.map enc) → H p = none → Q (.ref p) (upd H p (.lst xs))) : EP X pins σ Q (.ref (s.heap.objs.size + 1)) { s with heap := PyProof.Rows.sortedAll s.heap us out.toArray } := by
  obtain ⟨xs, r, k⟩ := of_each e
  obtain ⟨ep, he⟩ := PyProof.Rows.sortedAll_at s.heap us out.toArray
  have ln := Paired.length r
  exact ⟨.ref _, upd H (s.heap.objs.size + 1) (.lst xs), I.laid (t' := s.toks) (fun _ _ => PyProof.Rows.sortedAll_old) (Nat.le_succ _) ⟨by rw [ln, hl]; exact hz, out, ep, r, he⟩, rfl, q xs _ k (I.hok.fresh (Nat.le_succ _))⟩
variable {X : Cx} {t : Bool}
theorem cr_srt {k : Nat} (hr : Room k X.A) (S : Sorts enc bs) (hz : bs.length ≤ sizeLine) : CallR X (.builtin "sorted") (rSrt X.K t (bs.map enc) ((bs.mergeSort (dataLe false enc)).map enc)) := by
  intro pins s σ H vs us Q I r h
  obtain ⟨a, xs, G, rfl, hs, g, k, q⟩ := h
  obtain ⟨its, rv, hl, _⟩ := sq_src I hs
  rw [Vals.ref1 r]
  have e := each_of rv k
  have er := each_reads I g e
  have un := hr.un
  have er' : EachIs (fun v b => ∃ as, Reads (sortingHeap (copyHeap s.heap its) (s.heap.objs.size + 1) its) v (enc b) as) its bs := er.mono fun _ _ ⟨as, r⟩ => ⟨as, PyProof.Rows.Reads.keeps (fun _ _ => sorting_copy_old) r⟩
  have hu : ∀ b, b ∈ bs → X.A.in1.in1.units + (enc b).depth < cLine := fun b hb => by
    have := S.dp b hb
    show X.A.units + 1 + 1 + (enc b).depth < cLine
    omega
  exact sorted_src hl (by rw [e.length]; exact hz) (args_sorted1 _) (fun _ => args_list_sort _) fun _ => list_sort_vals (s := { s with heap := copyHeap s.heap its }) (copyHeap_at s.heap its)
    (SortsAt.data (s := { s with heap := sortingHeap (copyHeap s.heap its) (s.heap.objs.size + 1) its }) (each_map (R := fun v d => ∃ as, Reads (sortingHeap (copyHeap s.heap its) (s.heap.objs.size + 1) its) v d as) enc er') S.al S.so (bound_map hu)) (by rw [e.length]; exact hz)
    ⟨rfl, srt_end I hz (by rw [sortVals_length false rfl]; exact e.length) (sortVals_data false e er' S.al) q⟩
theorem cr_srtR {k : Nat} {b : Bool} (hr : Room k X.A) (S : Sorts enc bs) (hz : bs.length ≤ sizeLine) : CallRK X (.builtin "sorted") [Str.ofString "reverse"] (fun vs zs H Q => zs = [.bl b] ∧ rSrt X.K t (bs.map enc) ((bs.mergeSort (dataLe b enc)).map enc) vs H Q) := by
  intro pins s σ H vs zs us ws Q I r rz h
  obtain ⟨rfl, a, xs, G, rfl, hs, g, k, q⟩ := h
  obtain ⟨its, rv, hl, _⟩ := sq_src I hs
  rw [Vals.ref1 r]
  obtain ⟨w1, rfl, e1⟩ := vals1 rz
  obtain rfl : w1 = Value.bool b := e1
  have e := each_of rv k
  have er := each_reads I g e
  have un := hr.un
  have er' : EachIs (fun v b => ∃ as, Reads (sortingHeap (copyHeap s.heap its) (s.heap.objs.size + 1) its) v (enc b) as) its bs := er.mono fun _ _ ⟨as, r⟩ => ⟨as, PyProof.Rows.Reads.keeps (fun _ _ => sorting_copy_old) r⟩
  have hu : ∀ b, b ∈ bs → X.A.in1.in1.units + (enc b).depth < cLine := fun b hb => by
    have := S.dp b hb
    show X.A.units + 1 + 1 + (enc b).depth < cLine
    omega
  exact sorted_src hl (by rw [e.length]; exact hz) (args_sorted_rev _ _) (fun _ => args_list_sort_rev _ _) fun _ => list_sort_rev_vals (s := { s with heap := copyHeap s.heap its }) (copyHeap_at s.heap its)
    (SortsAt.data (s := { s with heap := sortingHeap (copyHeap s.heap its) (s.heap.objs.size + 1) its }) (each_map (R := fun v d => ∃ as, Reads (sortingHeap (copyHeap s.heap its) (s.heap.objs.size + 1) its) v d as) enc er') S.al S.so (bound_map hu)) (by rw [e.length]; exact hz)
    ⟨rfl, srt_end I hz (by rw [sortVals_length b rfl]; exact e.length) (sortVals_data b e er' S.al) q⟩
theorem rSrt_of {out : List PyData} {b0 : List PyData} {F G H : Hp} {hs : Hs} {vs : List V} {Q : VK} (hh : HH X.K F G H hs) (r : DtAll X.K G vs [dq t b0]) (k : ∀ z G' H', Grow F G G' → HH X.K F G' H' hs → Dt X.K G' z (.list out) → Q z H') : rSrt X.K t b0 out vs H Q := by
  obtain ⟨v, rfl, r1⟩ := dtA_one r
  obtain ⟨a, us, rfl, s, kk⟩ := dt_sq r1
  refine ⟨a, us, G, rfl, sq_mono hh.g s, hh.g, kk, fun xs p kx np => ?_⟩
  obtain ⟨g, hh'⟩ := hh.data (o := .lst xs) np
  exact k _ _ _ g hh' (.lst upd_same (dpA_mono g.up _ _ kx))
theorem k_sorted {k : Nat} (hr : Room k X.A) (S : Sorts enc bs) (hz : bs.length ≤ sizeLine) : CallD X (.builtin "sorted") [dq t (bs.map enc)] (.list ((bs.mergeSort (dataLe false enc)).map enc)) :=
  ⟨_, cr_srt (t := t) hr S hz, fun F G H hs vs Q hh r k => rSrt_of hh r k⟩
theorem k_sortedT {k : Nat} (hr : Room k X.A) (S : Sorts enc bs) (hz : bs.length ≤ sizeLine) : CallD X (.builtin "sorted") [.tuple (bs.map enc)] (.list ((bs.mergeSort (dataLe false enc)).map enc)) := k_sorted (t := true) hr S hz
theorem k_sortedL {k : Nat} (hr : Room k X.A) (S : Sorts enc bs) (hz : bs.length ≤ sizeLine) : CallD X (.builtin "sorted") [.list (bs.map enc)] (.list ((bs.mergeSort (dataLe false enc)).map enc)) := k_sorted (t := false) hr S hz
end
section
variable {X : Cx} {e : Expr} {ss : Sl} {hs : Hs} {pos p p2 p3 : Pos}
/-- sorted(e, reverse=b) -/
theorem gp_sortedR {β : Type} {enc : β → PyData} {bs : List β} {b : Bool} {j : Nat} (t : Bool) {k : Nat} (hr : Room k X.A) (hm : X.mg "sorted" = none) (S : Sorts enc bs) (hz : bs.length ≤ sizeLine) (h : GP X e ss hs (dq t (bs.map enc))) (hg : Gl X "sorted" := by rfl) (hst : starEach [e] X.env = [(false, eval e X.env)] := by rfl)
    (he : backTo pos (starEach [e] X.env) = (false, eval e X.env) :: backTo pos (starEach [] X.env) := by rfl) (hpl : (backTo pos (starEach [e] X.env)).any (·.1) = false := by rfl)
    (hall : (backToKw pos (keywordEach [⟨some "reverse", .Constant (.bool b) j p2, p3⟩] X.env)).all (·.1.isSome) = true := by rfl) (hnone : (backToKw pos (keywordEach [⟨some "reverse", .Constant (.bool b) j p2, p3⟩] X.env)).any (·.1.isNone) = false := by rfl) (hks : (backToKw pos (keywordEach [⟨some "reverse", .Constant (.bool b) j p2, p3⟩] X.env)).filterMap (·.1) = [Str.ofString "reverse"] := by rfl) :
    GP X (.Call (.Name "sorted" p) [e] [⟨some "reverse", .Constant (.bool b) j p2, p3⟩] pos) ss hs (.list ((bs.mergeSort (dataLe b enc)).map enc)) := ⟨fun F G H σ hh sl =>
  we_of (pe_callBK (cr_srtR (t := t) (b := b) hr S hz) hg hm (by decide +kernel) (pa_wa (es := [e])) (pk_cons pe_bl pk_nil) (by decide) (by decide) he hpl hall hnone hks) (((gap_cons h gap_nil hst).run F G H σ hh sl).mono fun vs H1 ⟨G1, evs, hs1, g1, hh1, r1, e1, e2⟩ => by
    subst e1
    subst e2
    exact ⟨rfl, rSrt_of hh1 (paired_d r1) fun z G' H' g' hh' rz => ⟨G', .d _, hs1, g1.trans g', hh', rz, rfl, rfl⟩⟩)⟩

/-! ### what may be sorted -/
theorem alike_int2 (a b c d : Int) : alike (.tuple [.int a, .int b]) (.tuple [.int c, .int d]) = true := by simp [alike, alikeAll]
theorem srt_ints (bs : List Int) : Sorts (.int ·) bs := ⟨AllAlike.of fun _ _ => rfl, Sortable.others fun b => ⟨fun z => (nomatch z), fun xs z => nomatch z⟩, fun b _ => Nat.zero_le _⟩
theorem srt_pairs {β : Type} (f g : β → Int) (bs : List β) : Sorts (fun b => .tuple [.int (f b), .int (g b)]) bs :=
  ⟨AllAlike.of fun _ _ => alike_int2 _ _ _ _, Sortable.tuples fun b => ⟨_, _, rfl⟩, fun b _ => by simp [PyData.depth, PyData.depthAll]⟩
end
end Asl

namespace Asl
open PySem PySem.Spec L2 PySem.W
open PyProof.Rows hiding St

/-! ### data of a type -/
class PyE (α : Type) where
  enc : α → PyData
  dp : Nat
  lay : ∀ a, (enc a).canLay0 = true
  dep : ∀ a, (enc a).depth ≤ dp
  nn : ∀ a, enc a ≠ .none
open PyE (enc)
/-- .. whose == is equality -/
class PyQ (α : Type) [PyE α] where
  dec : DecidableEq α
  eqv : ∀ a b : α, PyData.eqv (enc a) (enc b) = decide (a = b)
instance {α : Type} [PyE α] [q : PyQ α] : DecidableEq α := q.dec
instance : PyE Int := ⟨.int, 0, fun _ => rfl, fun _ => Nat.le_refl _, fun _ z => nomatch z⟩
instance : PyQ Int := ⟨inferInstance, fun a b => by
  show (a == b) = decide (a = b)
  exact Bool.beq_eq_decide_eq a b⟩
instance {α β : Type} [PyE α] [PyE β] : PyE (α × β) where
  enc p := .tuple [enc p.1, enc p.2]
  dp := max (PyE.dp α) (PyE.dp β) + 1
  lay p := by simp [PyData.canLay0, PyData.canLayAll0, PyE.lay]
  dep p := by
    have h1 := PyE.dep p.1
    have h2 := PyE.dep p.2
    simp only [PyData.depth, PyData.depthAll]
    omega
  nn p z := nomatch z
theorem layAll {α : Type} [PyE α] : ∀ l : List α, PyData.canLayAll0 (l.map enc) = true
  | [] => rfl
  | x :: l => by
    rw [List.map_cons, PyData.canLayAll0, PyE.lay x, layAll l]
    rfl
theorem depAll {α : Type} [PyE α] : ∀ l : List α, PyData.depthAll (l.map enc) ≤ PyE.dp α
  | [] => Nat.zero_le _
  | x :: l => by
    have h1 := PyE.dep x
    have h2 := depAll l
    rw [List.map_cons, PyData.depthAll]
    omega
instance {α : Type} [PyE α] : PyE (List α) where
  enc l := .tuple (l.map enc)
  dp := PyE.dp α + 1
  lay l := by
    show PyData.canLayAll0 (l.map enc) = true
    exact layAll l
  dep l := by
    have h := depAll l
    show PyData.depthAll (l.map enc) + 1 ≤ _
    omega
  nn p z := nomatch z
instance {α β : Type} [PyE α] [PyE β] [PyQ α] [PyQ β] : PyQ (α × β) := ⟨inferInstance, fun p q => by
  show (PyData.eqv (enc p.1) (enc q.1) && (PyData.eqv (enc p.2) (enc q.2) && true)) = _
  rw [PyQ.eqv, PyQ.eqv, Bool.and_true]
  cases p
  cases q
  simp [Prod.mk.injEq]⟩
theorem eqvAll_enc {α : Type} [PyE α] [PyQ α] : ∀ l m : List α, PyData.eqvAll (l.map enc) (m.map enc) = decide (l = m)
  | [], [] => rfl
  | [], _ :: _ => rfl
  | _ :: _, [] => rfl
  | x :: l, y :: m => by
    rw [List.map_cons, List.map_cons, PyData.eqvAll, PyQ.eqv, eqvAll_enc l m]
    simp [List.cons.injEq]
instance {α : Type} [PyE α] [PyQ α] : PyQ (List α) := ⟨inferInstance, fun l m => eqvAll_enc l m⟩
theorem enc_int (i : Int) : enc i = .int i := rfl
theorem enc_list {α : Type} [PyE α] (l : List α) : enc l = .tuple (l.map enc) := rfl
theorem enc_pair {α β : Type} [PyE α] [PyE β] (p : α × β) : enc p = .tuple [enc p.1, enc p.2] := rfl
theorem map_enc_int (l : List Int) : l.map enc = l.map PyData.int := rfl
theorem shp {α : Type} [PyE α] (h : PyE.dp α ≤ 64 := by decide) (a : α) : SeqAt.shaped (enc a) = true := by
  unfold SeqAt.shaped
  rw [PyE.lay, Bool.true_and]
  exact decide_eq_true (Nat.le_trans (PyE.dep a) h)

section
variable {X : Cx} {e e2 a b : Expr} {es : List Expr} {ss : Sl} {hs : Hs} {pos p p2 : Pos}
theorem Room.u64 {k : Nat} {A : Around} (hr : Room k A) : A.units + 65 < cLine := by
  have := hr.un
  omega
/-- == of data of one type -/
theorem c_eq {α : Type} [PyE α] [PyQ α] {k : Nat} (hr : Room k X.A) (x y : α) (h : PyE.dp α ≤ 64 := by decide) : CmpD X .Eq (enc x) (enc y) (.bool (decide (x = y))) := by
  have q := c_eqD (X := X) (x := enc x) (y := enc y) (by have := hr.un; omega) (shp h x) (shp h y)
  rw [PyQ.eqv] at q
  exact q
theorem c_ne {α : Type} [PyE α] [PyQ α] {k : Nat} (hr : Room k X.A) (x y : α) (h : PyE.dp α ≤ 64 := by decide) : CmpD X .NotEq (enc x) (enc y) (.bool (!decide (x = y))) := by
  have q := c_neD (X := X) (x := enc x) (y := enc y) (by have := hr.un; omega) (shp h x) (shp h y)
  rw [PyQ.eqv] at q
  exact q
theorem c_eqI {i j : Int} : CmpD X .Eq (.int i) (.int j) (.bool (decide (i = j))) := ⟨_, op_eq, fun F G H hs v w Q hh r1 r2 k => by
  cases r1
  cases r2
  refine ⟨rfl, ?_⟩
  have z : decide (V.int i = V.int j) = decide (i = j) := by simp
  rw [z]
  exact k _ G H (Grow.refl _ _) hh (.bl _)⟩
theorem c_neI {i j : Int} : CmpD X .NotEq (.int i) (.int j) (.bool (!decide (i = j))) := ⟨_, op_ne, fun F G H hs v w Q hh r1 r2 k => by
  cases r1
  cases r2
  refine ⟨rfl, ?_⟩
  have z : decide (V.int i = V.int j) = decide (i = j) := by simp
  rw [z]
  exact k _ G H (Grow.refl _ _) hh (.bl _)⟩
theorem c_eqS {i j : Str} : CmpD X .Eq (.str i) (.str j) (.bool (decide (i = j))) := ⟨_, op_eq, fun F G H hs v w Q hh r1 r2 k => by
  cases r1
  cases r2
  refine ⟨rfl, ?_⟩
  have z : decide (V.str i = V.str j) = decide (i = j) := by simp
  rw [z]
  exact k _ G H (Grow.refl _ _) hh (.bl _)⟩
theorem c_neS {i j : Str} : CmpD X .NotEq (.str i) (.str j) (.bool (!decide (i = j))) := ⟨_, op_ne, fun F G H hs v w Q hh r1 r2 k => by
  cases r1
  cases r2
  refine ⟨rfl, ?_⟩
  have z : decide (V.str i = V.str j) = decide (i = j) := by simp
  rw [z]
  exact k _ G H (Grow.refl _ _) hh (.bl _)⟩

/-! ### in, not in -/
theorem reads_dt {pins : List (Addr × Obj)} {σ : L2.St} {G H : Hp} {s : Shared} (I : Inv X pins σ H s) (g : Same G H) {v : V} {u : Value} {d : PyData} (h : Dt X.K G v d) (r : RelV v u) : ∃ as, Reads s.heap u d as := Dp.reads I d v u (Dt.dp _ _ (dp_mono g _ _ h)) r
/-- a rule that reads data and gives a bool -/
def rRd (K : PySem.W.Frag) (x y : PyData) (b : Bool) : R2 := fun v w H Q => Dp K H v x ∧ Dp K H w y ∧ Q (.bl b) H
theorem rd_rRd {x y : PyData} {b : Bool} : RD X.K (rRd X.K x y b) x y (.bool b) := fun F G H hs v w Q hh r1 r2 k => ⟨Dt.dp _ _ (dp_mono hh.g _ _ r1), Dt.dp _ _ (dp_mono hh.g _ _ r2), k _ G H (Grow.refl _ _) hh (.bl _)⟩
def memD (d : PyData) (ds : List PyData) : Bool := ds.any fun z => PyData.eqv z d
theorem c_in (t : Bool) {k : Nat} (hr : Room k X.A) {d : PyData} {ds : List PyData} (h1 : SeqAt.shaped d = true) (h2 : PyData.canLayAll0 ds = true) : CmpD X .In d (dq t ds) (.bool (memD d ds)) := ⟨rRd X.K d (dq t ds) (memD d ds), fun pins s σ H x y v u Q I rx ry ⟨q1, q2, q⟩ => by
  obtain ⟨as, r1⟩ := Dp.reads I _ _ _ q1 rx
  obtain ⟨bs, r2⟩ := Dp.reads I _ _ _ q2 ry
  have ru : X.A.units + 1 + min (PyData.depthAll ds) d.depth < cLine := room_in_shaped h1 (Room.u64 hr)
  cases t with
  | true => exact SeqAt.in_tuple_reads r2 r1 h2 (SeqAt.canLay_of_shaped h1) ru ⟨.bl _, H, I, rfl, q⟩
  | false => exact SeqAt.in_list_reads r2 r1 h2 (SeqAt.canLay_of_shaped h1) ru ⟨.bl _, H, I, rfl, q⟩, rd_rRd⟩
theorem c_notIn (t : Bool) {k : Nat} (hr : Room k X.A) {d : PyData} {ds : List PyData} (h1 : SeqAt.shaped d = true) (h2 : PyData.canLayAll0 ds = true) : CmpD X .NotIn d (dq t ds) (.bool (!memD d ds)) := ⟨rRd X.K d (dq t ds) (!memD d ds), fun pins s σ H x y v u Q I rx ry ⟨q1, q2, q⟩ => by
  obtain ⟨as, r1⟩ := Dp.reads I _ _ _ q1 rx
  obtain ⟨bs, r2⟩ := Dp.reads I _ _ _ q2 ry
  have ru : X.A.units + 1 + min (PyData.depthAll ds) d.depth < cLine := room_in_shaped h1 (Room.u64 hr)
  cases t with
  | true => exact SeqAt.notIn_tuple_reads r2 r1 h2 (SeqAt.canLay_of_shaped h1) ru ⟨.bl _, H, I, rfl, q⟩
  | false => exact SeqAt.notIn_list_reads r2 r1 h2 (SeqAt.canLay_of_shaped h1) ru ⟨.bl _, H, I, rfl, q⟩, rd_rRd⟩
theorem memD_enc {α : Type} [PyE α] [PyQ α] (x : α) (l : List α) : memD (enc x) (l.map enc) = decide (x ∈ l) := by
  induction l with
  | nil => simp [memD]
  | cons y l ih =>
    unfold memD at ih ⊢
    rw [List.map_cons, List.any_cons, PyQ.eqv, ih]
    by_cases h : y = x
    · subst h; simp
    · have h' : ¬ x = y := fun z => h z.symm
      simp [h, h']
theorem c_inT {α : Type} [PyE α] [PyQ α] {k : Nat} (hr : Room k X.A) (x : α) (l : List α) (h : PyE.dp α ≤ 64 := by decide) : CmpD X .In (enc x) (.tuple (l.map enc)) (.bool (decide (x ∈ l))) := memD_enc x l ▸ c_in true hr (shp h x) (layAll l)
theorem c_inL {α : Type} [PyE α] [PyQ α] {k : Nat} (hr : Room k X.A) (x : α) (l : List α) (h : PyE.dp α ≤ 64 := by decide) : CmpD X .In (enc x) (.list (l.map enc)) (.bool (decide (x ∈ l))) := memD_enc x l ▸ c_in false hr (shp h x) (layAll l)
theorem c_notInT {α : Type} [PyE α] [PyQ α] {k : Nat} (hr : Room k X.A) (x : α) (l : List α) (h : PyE.dp α ≤ 64 := by decide) : CmpD X .NotIn (enc x) (.tuple (l.map enc)) (.bool (!decide (x ∈ l))) := memD_enc x l ▸ c_notIn true hr (shp h x) (layAll l)
theorem c_notInL {α : Type} [PyE α] [PyQ α] {k : Nat} (hr : Room k X.A) (x : α) (l : List α) (h : PyE.dp α ≤ 64 := by decide) : CmpD X .NotIn (enc x) (.list (l.map enc)) (.bool (!decide (x ∈ l))) := memD_enc x l ▸ c_notIn false hr (shp h x) (layAll l)

/-! ### unary minus -/
theorem gp_neg {i : Int} (h : GP X a ss hs (.int i)) : GP X (.UnaryOp .USub a pos) ss hs (.int (-i)) := ⟨fun F G H σ hh sl =>
  we_of (pe_un un_neg pe_we) ((h.run F G H σ hh sl).mono fun v H1 ⟨G1, ev, hs1, g1, hh1, r1, e1, e2⟩ => by
    subst e1
    subst e2
    have r1 : Dt X.K G1 v (.int i) := r1
    cases r1
    exact ⟨i, rfl, G1, .d (.int (-i)), _, g1, hh1, Dt.int _, rfl, rfl⟩)⟩

/-! ### slices -/
/-- a slice's part -/
inductive GO (X : Cx) (ss : Sl) (hs : Hs) : Option Expr → Option Int → Prop
  | none : GO X ss hs none none
  | some {e : Expr} {i : Int} (h : GP X e ss hs (.int i)) : GO X ss hs (some e) (some i)
def WO (X : Cx) (e : Option Expr) : TO := fun σ H Q => ∀ (pins : List (Addr × Obj)) (s : Shared), Inv X pins σ H s → wpAny (model X.prog X.w) X.A (evalPart e X.env) (fun u s' => ∃ o H', Inv X pins σ H' s' ∧ IsPart u o ∧ Q o H') X.xe s
theorem po_wo {e : Option Expr} : PO X e (WO X e) := ⟨fun pins s σ H Q I h => h pins s I⟩
theorem GO.run {e : Option Expr} {o : Option Int} (h : GO X ss hs e o) {F G H : Hp} {σ : L2.St} (hh : HH X.K F G H hs) (sl : SL X.K G σ ss) : WO X e σ H fun o' H' => ∃ G', Grow F G G' ∧ HH X.K F G' H' hs ∧ o' = o := by
  intro pins s I
  cases h with
  | none => exact po_none.run pins s σ H _ I ⟨G, Grow.refl _ _, hh, rfl⟩
  | @some e i h =>
    refine (po_some pe_we).run pins s σ H _ I ((h.run F G H σ hh sl).mono fun v H1 ⟨G1, ev, hs1, g1, hh1, r1, e1, e2⟩ => ?_)
    subst e1
    subst e2
    have r1 : Dt X.K G1 v (.int i) := r1
    cases r1
    exact ⟨i, rfl, G1, g1, hh1, rfl⟩
def cutD (xs : List PyData) (lo hi : Option Int) : List PyData := (xs.drop (HT.sIx xs.length 0 lo)).take (HT.sIx xs.length xs.length hi - HT.sIx xs.length 0 lo)
theorem dt_cut {K : PySem.W.Frag} {G : Hp} {us : List V} {xs : List PyData} (k : DtAll K G us xs) (lo hi : Option Int) : DtAll K G (cutV us lo hi) (cutD xs lo hi) := by
  unfold cutV cutD
  rw [dpA_len k]
  exact dpA_take _ (dpA_drop _ k)
theorem gp_slice (t : Bool) {lo hi : Option Expr} {l h : Option Int} {xs : List PyData} (he : GP X e ss hs (dq t xs)) (hl : GO X ss hs lo l) (hh : GO X ss hs hi h) : GP X (.Subscript e (.Slice lo hi none p2) pos) ss hs (dq t (cutD xs l h)) := ⟨fun F G H σ hH sl => by
  have rd : SlR X (fun x lo hi H Q => rSlA X.K x lo hi H Q ∨ rSlL X.K x lo hi H Q) := sl_tupA.or sl_list
  refine we_of (pe_slice rd pe_we po_wo po_wo) ((he.run F G H σ hH sl).mono fun v H1 ⟨G1, ev, hs1, g1, hh1, r1, e1, e2⟩ => ?_)
  subst e1
  subst e2
  have r1 : Dt X.K G1 v (dq t xs) := r1
  intro pins s I
  refine thn (hl.run hh1 (sl.mono g1.up) pins s I) fun u s' ⟨o, H2, I2, pt, G2, g2, hh2, e3⟩ => ⟨o, H2, I2, pt, ?_⟩
  subst e3
  intro pins s I
  refine thn (hh.run hh2 (sl.mono (g1.trans g2).up) pins s I) fun u s' ⟨o2, H3, I3, pt, G3, g3, hh3, e3⟩ => ⟨o2, H3, I3, pt, ?_⟩
  subst e3
  have gg := (g1.trans g2).trans g3
  obtain ⟨p, us, rfl, sq, k⟩ := dt_sq (dp_mono (g2.trans g3).up _ _ r1)
  have fin : ∀ {z : V} {G' H' : Hp}, Grow F G3 G' → HH X.K F G' H' hs1 → Dt X.K G' z (dq t (cutD xs o o2)) → EB X.K F G (fun ev h => ev = .d (dq t (cutD xs o o2)) ∧ h = hs1) z H' := fun {z G' H'} g' hh' r => ⟨G', .d _, hs1, gg.trans g', hh', r, rfl, rfl⟩
  cases t with
  | true =>
    refine .inl ⟨p, us, rfl, sqT_mono hh3.g sq, fun ⟨z1, z2⟩ => ?_, fun _ q nq => ?_⟩
    · have e : cutD xs o o2 = xs := by
        unfold cutD
        rw [← dpA_len k, z1, z2, List.drop_zero, Nat.sub_zero, dpA_len k, List.take_length]
      refine fin (Grow.refl _ _) hh3 ?_
      rw [e]
      exact Dt.tup sq k
    · obtain ⟨g, hh'⟩ := hh3.data (o := .tup (cutV us o o2)) nq
      exact fin g hh' (Dt.tup (.inl (.inl upd_same)) (dpA_mono g.up _ _ (dt_cut k o o2)))
  | false =>
    refine .inr ⟨p, us, rfl, sqL_mono hh3.g sq, fun q nq => ?_⟩
    obtain ⟨g, hh'⟩ := hh3.data (o := .lst (cutV us o o2)) nq
    exact fin g hh' (Dt.lst upd_same (dpA_mono g.up _ _ (dt_cut k o o2)))⟩
theorem cut_from (xs : List PyData) (i : Int) (h : 0 ≤ i) : cutD xs (some i) none = xs.drop i.toNat := by
  obtain ⟨n, rfl⟩ := Int.eq_ofNat_of_zero_le h
  unfold cutD
  rw [HT.sIx_nat, HT.sIx_none, Int.toNat_natCast]
  by_cases hn : n ≤ xs.length
  · rw [Nat.min_eq_left hn, List.take_of_length_le (by rw [List.length_drop]; exact Nat.le_refl _)]
  · rw [Nat.min_eq_right (by omega), List.drop_of_length_le (by omega), List.drop_of_length_le (by omega)]
    rw [List.take_nil]
theorem cut_to (xs : List PyData) (i : Int) (h : 0 ≤ i) : cutD xs none (some i) = xs.take i.toNat := by
  obtain ⟨n, rfl⟩ := Int.eq_ofNat_of_zero_le h
  unfold cutD
  rw [HT.sIx_nat, HT.sIx_none, Int.toNat_natCast, List.drop_zero, Nat.sub_zero]
  by_cases hn : n ≤ xs.length
  · rw [Nat.min_eq_left hn]
  · rw [Nat.min_eq_right (by omega), List.take_length, List.take_of_length_le (by omega)]

/-! ### a tuple times an int -/
theorem b_repT {xs : List PyData} {k : Int} (hn : xs ≠ []) (h1 : 2 ≤ k) (h2 : k ≤ 1000) (h3 : xs.length ≤ 1000) : BinD X .Mult (.tuple xs) (.int k) (.tuple (List.replicate k.toNat xs).flatten) := ⟨_, op_repT, fun F G H hs v w Q hh r1 r2 kk => by
  cases r2
  obtain ⟨p, us, rfl, sq, a⟩ := dt_sq (t := true) r1
  have ln := dpA_len a
  refine ⟨p, k, us, rfl, rfl, sqT_mono hh.g sq, fun z => hn ?_, h1, h2, by omega, fun q nq => ?_⟩
  · rw [z] at ln
    exact List.eq_nil_of_length_eq_zero ln.symm
  · obtain ⟨g, hh'⟩ := hh.data (o := .tup (List.replicate k.toNat us).flatten) nq
    refine kk _ _ _ g hh' (Dt.tup (.inl (.inl upd_same)) (dpA_mono g.up _ _ ?_))
    have rep : ∀ n : Nat, DtAll X.K G (List.replicate n us).flatten (List.replicate n xs).flatten := by
      intro n
      induction n with
      | zero => exact .nil
      | succ n ih =>
        rw [List.replicate_succ, List.replicate_succ, List.flatten_cons, List.flatten_cons]
        exact dpA_app a ih
    exact rep k.toNat⟩
theorem tuple_mul1 (l : Addr) (items : Array Value) (n : Nat) (dd : Option Addr) (sl : Array (Option Value)) (u : Tok) :
    Meets (Builtin.«tuple.__mul__» ⟨[.ref l, .int 1 u], []⟩) (fun _ R s => s.heap.get? l = some { cls := .type "tuple", dict := dd, data := .seq items n, slots := sl } ∧ R (.ok (.ret (.ref l))) s) :=
  .of_wp fun prog w A R s h => by
    obtain ⟨hp, g, d, tk, os⟩ := s
    obtain ⟨hl, h⟩ := h
    have f1 := AutoSeq1.idx_int
    have c1 : (items.isEmpty || (1 : Int) == 1) = true := by simp
    wp_walk using AutoSeq1.wpAny_loadPart' hl
    exact ⟨_, rfl, h⟩
end
end Asl

/-! Asl: lists that change; comprehensions with two fors. -/
namespace Asl
open PySem PySem.Spec L2 PySem.W
open PyProof.Rows hiding St
open PyE (enc)
section
variable {X : Cx} {e o i : Expr} {ss : Sl} {hs : Hs} {pos apos p p2 : Pos}
theorem b_repT1 {xs : List PyData} : BinD X .Mult (.tuple xs) (.int 1) (.tuple xs) := ⟨fun x y H Q => ∃ a us, x = .ref a ∧ y = .int 1 ∧ SqT X.K H a us ∧ Q (.ref a) H, fun pins s σ H x y v u Q I rx ry ⟨a, us, e1, e2, h, q⟩ => by
  subst e1
  subst e2
  cases rx
  obtain ⟨t, rfl⟩ := ry
  obtain ⟨its, r, ⟨⟨cls, dd, data, sl⟩, ho, hc, n, hd⟩, hz⟩ := I.tuple h
  simp only at hc hd
  subst hc hd
  exact wpAny_binaryOp_repeat_ref (T := "tuple") (U := "int") (by decide) ⟨_, ho, rfl⟩ (fun s' => typeIs_int s' 1 t) noFill_tuple_mul F.fills_int_mul F.slot_int_rmul repeat_tuple F.slot_int_index.lookup
    (call_meets F.slot_int_rmul (typeIs_int s 1 t) F.entry_int_rmul (F.args_int_rmul_2 _ _) (int_rmul_tuple 1 t a its.toArray n dd sl)
      ⟨ho, rfl, ⟨_, ho, rfl⟩, call_meets F.slot_tuple_mul ⟨_, ho, rfl⟩ F.entry_tuple_mul (F.args_tuple_mul_2 _ _) (tuple_mul1 a its.toArray n dd sl t) ⟨ho, .ref a, H, I, rfl, q⟩⟩), fun F G H hs v w Q hh r1 r2 k => by
  cases r2
  obtain ⟨p, us, rfl, sq, a⟩ := dt_sq (t := true) r1
  exact ⟨p, us, rfl, rfl, sqT_mono hh.g sq, k _ G H (Grow.refl _ _) hh (Dt.tup sq a)⟩⟩
/-- (x, ..) * k, k at least 1 -/
theorem b_rep {xs : List PyData} {k : Int} (hn : xs ≠ []) (h1 : 1 ≤ k) (h2 : k ≤ 1000) (h3 : xs.length ≤ 1000) : BinD X .Mult (.tuple xs) (.int k) (.tuple (List.replicate k.toNat xs).flatten) := by
  by_cases e : k = 1
  · subst e
    have z : (List.replicate (1 : Int).toNat xs).flatten = xs := by
      show (List.replicate 1 xs).flatten = xs
      simp
    rw [z]
    exact b_repT1
  · exact b_repT hn (by omega) h2 h3

/-! ### a list that changes -/
theorem own_lst {F G H : Hp} {a : Addr} {es : List EV} (hh : HH X.K F G H hs) (m : (a, .lst es) ∈ hs) : ∃ xs, H a = some (.lst xs) ∧ Paired (Rv X.K G) xs es := by
  obtain ⟨_, _, ob, q, xs, rfl, r⟩ := hh.own a _ m
  exact ⟨xs, q, r⟩
theorem paired_get {K : PySem.W.Frag} {G : Hp} : ∀ {vs : List V} {evs : List EV} {i : Nat} {ev : EV}, Paired (Rv K G) vs evs → evs[i]? = some ev → ∃ v, vs[i]? = some v ∧ Rv K G v ev
  | [], _, i, ev, h, q => by cases h; simp at q
  | v :: vs, _, i, ev, h, q => by
    cases h with
    | cons r1 r2 =>
      cases i with
      | zero =>
        have := Option.some.inj (show some _ = some ev from q)
        subst this
        exact ⟨v, rfl, r1⟩
      | succ i =>
        obtain ⟨u, q1, q2⟩ := paired_get (i := i) r2 q
        exact ⟨u, q1, q2⟩
theorem paired_app {K : PySem.W.Frag} {G : Hp} : ∀ {vs us : List V} {es fs : List EV}, Paired (Rv K G) vs es → Paired (Rv K G) us fs → Paired (Rv K G) (vs ++ us) (es ++ fs)
  | [], _, _, _, h, h2 => by cases h; exact h2
  | _ :: _, _, _, _, h, h2 => by
    cases h with
    | cons r1 r2 => exact .cons r1 (paired_app r2 h2)
theorem paired_set {K : PySem.W.Frag} {G : Hp} {v : V} {ev : EV} (r : Rv K G v ev) : ∀ {vs : List V} {es : List EV} (i : Nat), Paired (Rv K G) vs es → Paired (Rv K G) (vs.set i v) (es.set i ev)
  | [], _, _, h => by cases h; exact .nil
  | _ :: _, _, i, h => by
    cases h with
    | cons r1 r2 =>
      cases i with
      | zero => exact .cons r r2
      | succ i => exact .cons r1 (paired_set r i r2)
/-- len(x) -/
theorem ge_lenO {Φ : EV → Hs → Prop} {x : Str} (hm : X.mg "len" = none) (h : GE X e ss hs fun ev hs1 => ∃ a es, ev = .r a ∧ (a, .lst es) ∈ hs1 ∧ Φ (.d (.int es.length)) hs1) (hg : Gl X "len" := by rfl) (he : starEach [e] X.env = (false, eval e X.env) :: starEach [] X.env := by rfl) (hpl : (backTo pos (starEach [] X.env)).any (·.1) = false := by rfl) :
    GE X (.Call (.Name "len" p) [e] [] pos) ss hs Φ := ⟨fun F G H σ hh sl =>
  we_of (pe_callB call_len_seq hg hm PySem.boot_len (pa_cons pe_we pa_nil he) (by decide) (by decide) he hpl) ((h.run F G H σ hh sl).mono fun v H1 ⟨G1, ev, hs1, g1, hh1, r1, a, es, e1, m, q⟩ => by
    subst e1
    have r1 : v = .ref a := r1
    subst r1
    obtain ⟨xs, q1, r⟩ := own_lst hh1 m
    refine ⟨a, xs, rfl, .inl (SqL.of q1), G1, .d (.int es.length), hs1, g1, hh1, ?_, q⟩
    rw [Paired.length r]
    exact Dt.int _)⟩
/-- x[i] -/
theorem ge_ixO {Φ : EV → Hs → Prop} (h : GE X o ss hs fun ev hs1 => ∃ a, ev = .r a ∧ GE X i ss hs1 fun ev2 hs2 => ∃ k es z, ev2 = .d (.int k) ∧ (a, .lst es) ∈ hs2 ∧ atI es k = some z ∧ Φ z hs2) (hs' : PlainIx i := by exact fun _ _ => rfl) : GE X (.Subscript o i pos) ss hs Φ := ⟨fun F G H σ hh sl =>
  we_of (pe_ix ix_list pe_we pe_we hs') ((h.run F G H σ hh sl).mono fun v H1 ⟨G1, ev, hs1, g1, hh1, r1, a, e1, q⟩ => (q.run F G1 H1 σ hh1 (sl.mono g1.up)).mono fun w H2 ⟨G2, ev2, hs2, g2, hh2, r2, k, es, z, e2, m, az, q2⟩ => by
    subst e1
    subst e2
    have r1 : v = .ref a := r1
    subst r1
    have r2 : Dt X.K G2 w (.int k) := r2
    cases r2
    obtain ⟨xs, q1, r⟩ := own_lst hh2 m
    unfold atI at az
    cases qn : ixN es.length k with
    | none => rw [qn] at az; cases az
    | some j =>
      rw [qn] at az
      obtain ⟨u, q3, rv⟩ := paired_get r (show es[j]? = some z from az)
      refine ⟨a, xs, k, u, rfl, rfl, SqL.of q1, ?_, G2, z, hs2, g1.trans g2, hh2, rv, q2⟩
      unfold atI
      rw [Paired.length r, qn]
      exact q3)⟩
/-- x.append(e) -/
theorem ge_append {Φ : EV → Hs → Prop} (h : GE X o ss hs fun ev hs1 => ∃ a es0, ev = .r a ∧ (a, .lst es0) ∈ hs1 ∧ GE X e ss hs1 fun ev2 hs2 => ∃ es hs3, Put hs2 a (.lst es) (.lst (es ++ [ev2])) hs3 ∧ es.length < sizeLine ∧ Φ (.d .none) hs3)
    (hbase : attributeBase o "append" X.env (eval o X.env) = eval o X.env := by rfl)
    (hfew : ((backTo pos (starEach [e] X.env)).all (fun x => !x.1) && (backToKw pos (keywordEach [] X.env)).all (fun x => x.1.isSome) && decide ([e].length + ([] : List Keyword).length + (if ([] : List Keyword).isEmpty then 0 else 1) < 30)) = true := by rfl)
    (hline : (apos.endLine == pos.line) = true := by rfl) (hst : starEach [e] X.env = (false, eval e X.env) :: starEach [] X.env := by rfl) (hplain : (backTo pos (starEach [] X.env)).any (·.1) = false := by rfl) :
    GE X (.Call (.Attribute o "append" apos) [e] [] pos) ss hs Φ := ⟨fun F G H σ hh sl =>
  we_of (pe_bm PySem.F.plainAttrs_list PySem.F.slot_list_append PySem.F.type_list_append mt_append pe_we (pa_cons pe_we pa_nil hst) hbase hfew hline hst hplain) ((h.run F G H σ hh sl).mono fun v H1 ⟨G1, ev, hs1, g1, hh1, r1, a, es0, e1, m0, q⟩ => by
    subst e1
    have r1 : v = .ref a := r1
    subst r1
    obtain ⟨xs0, q0, _⟩ := own_lst hh1 m0
    refine ⟨.inl ⟨rfl, xs0, SqL.of q0⟩, (q.run F G1 H1 σ hh1 (sl.mono g1.up)).mono fun w H2 ⟨G2, ev2, hs2, g2, hh2, r2, es, hs3, pt, lz, k⟩ => ?_⟩
    obtain ⟨xs, q1, r⟩ := own_lst hh2 pt.mem
    refine ⟨a, xs, w, rfl, rfl, q1, by rw [Paired.length r]; exact lz, G2, .d .none, hs3, g1.trans g2, ?_, Dt.non, k⟩
    exact hh2.puts pt ⟨_, rfl, paired_app r (.cons r2 .nil)⟩)⟩
/-- x.pop() -/
theorem ge_pop {Φ : EV → Hs → Prop} (h : GE X o ss hs fun ev hs1 => ∃ a es z hs2, ev = .r a ∧ Put hs1 a (.lst (es ++ [z])) (.lst es) hs2 ∧ Φ z hs2)
    (hbase : attributeBase o "pop" X.env (eval o X.env) = eval o X.env := by rfl) (hline : (apos.endLine == pos.line) = true := by rfl) : GE X (.Call (.Attribute o "pop" apos) [] [] pos) ss hs Φ := ⟨fun F G H σ hh sl =>
  we_of (pe_bm0 PySem.F.plainAttrs_list PySem.F.slot_list_pop PySem.F.type_list_pop mt_pop pe_we hbase hline) ((h.run F G H σ hh sl).mono fun v H1 ⟨G1, ev, hs1, g1, hh1, r1, a, es, z, hs2, e1, pt, k⟩ => by
    subst e1
    have r1 : v = .ref a := r1
    subst r1
    obtain ⟨xs, q1, r⟩ := own_lst hh1 pt.mem
    have ln := Paired.length r
    rw [List.length_append, List.length_singleton] at ln
    have g0 : (es ++ [z])[es.length]? = some z := by simp
    obtain ⟨u, q2, rv⟩ := paired_get r g0
    have e3 : xs.dropLast = xs.take es.length := by rw [List.dropLast_eq_take, ln]; rfl
    have tk : ∀ {vs : List V} {fs gs : List EV}, Paired (Rv X.K G1) vs (fs ++ gs) → Paired (Rv X.K G1) (vs.take fs.length) fs := by
      intro vs fs
      induction fs generalizing vs with
      | nil => intro gs _; exact .nil
      | cons f fs ih =>
        intro gs h
        cases h with
        | cons r1 r2 => exact .cons r1 (ih r2)
    refine ⟨.inl ⟨rfl, xs, SqL.of q1⟩, a, xs, u, rfl, rfl, q1, ?_, G1, z, hs2, g1, ?_, rv, k⟩
    · rw [show xs.length - 1 = es.length by omega]
      exact q2
    · rw [e3]
      exact hh1.puts pt ⟨_, rfl, tk r⟩)⟩
/-- x[i] = e -/
theorem gs_setO {D : Out} {pos' : Pos} (h : GE X e ss hs fun ev hs1 => GE X o ss hs1 fun eo hs2 => ∃ a, eo = .r a ∧ GE X i ss hs2 fun ei hs3 => ∃ k j es hs4, ei = .d (.int k) ∧ ixN es.length k = some j ∧ Put hs3 a (.lst es) (.lst (es.set j ev)) hs4 ∧ D.nx ss hs4)
    (ha : ∀ v, assign (.Subscript o i pos') X.env v = (do
      let ov ← holding [v] (eval o X.env)
      let iv ← holding [v, ov] (eval i X.env)
      standAt pos'
      holding [v, ov, iv] (setItem ov iv v)
      release [v, ov, iv] []) := by intro _; rfl)
    (hsw : swapsWithSole [.Subscript o i pos'] e pos.line X.env = pure false := by rfl) (hw : swappedStores [.Subscript o i pos'] e X.env = pure none := by rfl)
    (h1 : (assignEach [.Subscript o i pos'] X.env).map (·.2) = [assign (.Subscript o i pos') X.env] := by rfl) : GS X (.Assign [.Subscript o i pos'] e pos) ss hs D := ⟨fun F G H σ hh sl hl =>
  ws_of (ps_asg pe_we (pg_sub pe_we pe_we set_list ha) hsw hw h1) ((h.run F G H σ hh sl).mono fun v H1 ⟨G1, ev, hs1, g1, hh1, r1, q⟩ => (q.run F G1 H1 σ hh1 (sl.mono g1.up)).mono fun w H2 ⟨G2, ev2, hs2, g2, hh2, r2, a, e2, q2⟩ => (q2.run F G2 H2 σ hh2 (sl.mono (g1.trans g2).up)).mono fun y H3 ⟨G3, ev3, hs3, g3, hh3, r3, k, j, es, hs4, e3, hj, pt, k2⟩ => by
    subst e2
    subst e3
    have r2 : w = .ref a := r2
    subst r2
    have r3 : Dt X.K G3 y (.int k) := r3
    cases r3
    obtain ⟨xs, q1, r⟩ := own_lst hh3 pt.mem
    have gg := (g1.trans g2).trans g3
    refine ⟨a, xs, k, j, rfl, rfl, q1, by rw [Paired.length r]; exact hj, G3, ss, hs4, gg, ?_, sl.mono gg.up, hl, k2⟩
    exact hh3.puts pt ⟨_, rfl, paired_set (rv_mono (g2.trans g3).up r1) j r⟩)⟩
/-- list(e), a list of one's own -/
theorem ge_listO (t : Bool) {Φ : EV → Hs → Prop} (hm : X.mg "list" = none) (h : GE X e ss hs fun ev hs1 => ∃ ds, ev = .d (dq t ds) ∧ ∀ a, Φ (.r a) ((a, .lst (ds.map .d)) :: hs1)) (hg : Gl X "list" := by rfl) (he : starEach [e] X.env = (false, eval e X.env) :: starEach [] X.env := by rfl) (hpl : (backTo pos (starEach [] X.env)).any (·.1) = false := by rfl) :
    GE X (.Call (.Name "list" p) [e] [] pos) ss hs Φ := ⟨fun F G H σ hh sl =>
  we_of (pe_callTy call_list_of hg hm (by decide +kernel) (pa_cons pe_we pa_nil he) (by decide) (by decide) he hpl) ((h.run F G H σ hh sl).mono fun v H1 ⟨G1, ev, hs1, g1, hh1, r1, ds, e1, q⟩ => by
    subst e1
    have r1 : Dt X.K G1 v (dq t ds) := r1
    obtain ⟨a, us, rfl, sq, kk⟩ := dt_sq r1
    exact ⟨a, us, rfl, sq_or (sq_mono hh1.g sq), fun l nl => ⟨G1, .r l, (l, .lst (ds.map .d)) :: hs1, g1, hh1.fresh nl ⟨us, rfl, d_paired kk⟩, rfl, q l⟩⟩)⟩
end

/-! ### two fors -/
section
variable {X : Cx} {tg iter tg1 iter1 elt : Expr} {ss : Sl} {hs : Hs} {pos : Pos}
/-- the test of a pure comprehension -/
inductive PIfs (X : Cx) (scope : Scope) : List Expr → Sl → Hs → Bool → Prop
  | none {ss : Sl} {hs : Hs} : PIfs X scope [] ss hs true
  | one {c : Expr} {ss : Sl} {hs : Hs} {b : Bool} (h : BC X scope fun Y => GTP Y c ss hs b) : PIfs X scope [c] ss hs b
theorem PIfs.run {scope : Scope} {ifs : List Expr} {ss : Sl} {hs : Hs} {b : Bool} (h : PIfs X scope ifs ss hs b) {F G H : Hp} {σ : L2.St} (hh : HH X.K F G H hs) (sl : SL X.K G σ ss) {Q : Bool → Hp → Prop} (k : ∀ G' H', Grow F G G' → HH X.K F G' H' hs → Q b H') : tTs X scope ifs σ H Q := by
  cases h with
  | none => exact k G H (Grow.refl _ _) hh
  | @one c _ _ _ q =>
    intro s0 H0 C0 cl0 fp0
    refine WT.mono (e := c) ((q s0 H0 C0 cl0 fp0).run F G H σ hh sl) fun t H4 ⟨G4, hs4, g4, hh4, e1, e2⟩ => ?_
    subst e1
    subst e2
    exact k G4 H4 g4 hh4
theorem lp_lc2 {α β : Type} {ifs1 : List Expr} {scope : Scope} (own own1 : List (Str × Nat)) (l : List α) (l2 : α → List β) (enc1 : α → PyData) (enc2 : β → PyData) (p : α → β → Bool) (f : α → β → PyData) (hc : X.calm = true) (hN : X.N.Nodup)
    (hi : GIP X tg iter ss hs (l.map enc1)) (hz : (l.flatMap fun x => ((l2 x).filter (p x)).map (f x)).length ≤ sizeLine)
    (hb : ∀ x ∈ l, BC X scope fun Y => GG Y tg (.d (enc1 x)) (wipeS ss (own.map (·.2))) hs (own.map (·.2)) fun ss2 hs2 => hs2 = hs ∧ (BC X scope fun Y => GIP Y tg1 iter1 ss2 hs ((l2 x).map enc2)) ∧
      ∀ y ∈ l2 x, BC X scope fun Y => GG Y tg1 (.d (enc2 y)) (wipeS ss2 (own1.map (·.2))) hs (own1.map (·.2)) fun ss3 hs3 => hs3 = hs ∧ PIfs X scope ifs1 ss3 hs (p x y) ∧ (p x y = true → BC X scope fun Y => GP Y elt ss3 hs (f x y)))
    (hif : ifs1.length ≤ 1 := by decide) (ok : blkC X.N X.env.scope scope own = true := by first | rfl | decide +kernel) (hv : ∀ i ∈ own1.map (·.2), i ∈ own.map (·.2) := by decide) (hfs : ∀ x, foldedSetIterable iter X.env x = pure x := by intro _; rfl) (hfs1 : ∀ env x, foldedSetIterable iter1 env x = pure x := by intro _ _; rfl) (hl : ss.length ≤ X.N.length := by exact Nat.le_of_ble_eq_true rfl) : GLc X (.ListComp elt [⟨tg, iter, [], 0⟩, ⟨tg1, iter1, ifs1, 0⟩] scope pos) ss hs fun ev h => ev = .d (.list (l.flatMap fun x => ((l2 x).filter (p x)).map (f x))) ∧ h = hs := by
  let g : TG := fun v σ H Q => ∀ (s : Shared) (H0 : Hp) (C : Addr) (cl : List (Str × Addr)) (fp : List Addr), WG (X.blk s H0 scope (compEnvC scope cl C X.env) fp) tg v σ H Q
  let g1 : TG := fun v σ H Q => ∀ (s : Shared) (H0 : Hp) (C : Addr) (cl : List (Str × Addr)) (fp : List Addr), WG (X.blk s H0 scope (compEnvC scope cl C X.env) fp) tg1 v σ H Q
  let wi1 : TI := fun σ H R => ∀ (s : Shared) (H0 : Hp) (C : Addr) (cl : List (Str × Addr)) (fp : List Addr), WI (X.blk s H0 scope (compEnvC scope cl C X.env) fp) tg1 iter1 σ H R
  let te : TE := fun σ H Q => ∀ (s : Shared) (H0 : Hp) (C : Addr) (cl : List (Str × Addr)) (fp : List Addr), WE (X.blk s H0 scope (compEnvC scope cl C X.env) fp) elt σ H Q
  have pt : ∀ (s : Shared) (H : Hp) (C : Addr) (cl : List (Str × Addr)) (fp : List Addr), PTs (X.blk s H scope (compEnvC scope cl C X.env) fp) ifs1 (tTs X scope ifs1) := fun s H C cl fp => by
    match ifs1, hif with
    | [], _ => exact pts_nil
    | [c], _ => exact pts_one ⟨fun pins s' σ H' Q I h => h s H C cl fp pins s' I⟩
  refine ⟨tLc2 (WI X tg iter) g tYes wi1 g1 (tTs X scope ifs1) te (own.map (·.2)) (own1.map (·.2)), ⟨pe_lc2 hc hN pi_wi (blkOk_by ok) hv (fun s H C cl fp => ⟨fun pins s' σ H' v u Q I r h => h s H C cl fp pins s' u I r⟩) (fun _ _ _ _ _ => pts_nil) (fun s H C cl fp => ⟨fun pins s' σ H' R I h => h s H C cl fp pins s' I⟩) (fun s H C cl fp => ⟨fun pins s' σ H' v u Q I r h => h s H C cl fp pins s' u I r⟩) pt (fun s H C cl fp => ⟨fun pins s' σ H' Q I h => h s H C cl fp pins s' I⟩) hfs hfs1, fun hy hyl hsw => ps_setLc2 hc hN hy hyl hsw pi_wi (blkOk_by ok) hv (fun s H C cl fp => ⟨fun pins s' σ H' v u Q I r h => h s H C cl fp pins s' u I r⟩) (fun _ _ _ _ _ => pts_nil) (fun s H C cl fp => ⟨fun pins s' σ H' R I h => h s H C cl fp pins s' I⟩) (fun s H C cl fp => ⟨fun pins s' σ H' v u Q I r h => h s H C cl fp pins s' u I r⟩) pt (fun s H C cl fp => ⟨fun pins s' σ H' Q I h => h s H C cl fp pins s' I⟩) hfs hfs1, tlc2_mono⟩, fun F G H σ hh sl => ?_⟩
  refine WI.mono (hi.run F G H σ hh sl) ?_
  rintro J H1 ⟨G1, items, hs1, gg1, hh1, Y, rfl, rfl⟩ D nD
  let pre : Nat → List PyData := fun i => (l.take i).flatMap fun x => ((l2 x).filter (p x)).map (f x)
  let St1 : List PyData → Hp → Prop := fun acc H' => ∃ G', Grow F G G' ∧ Same G1 G' ∧ HH X.K F G' H' ((D, .lst (acc.map .d)) :: hs1)
  refine ⟨fun i m H' => m = l.length - i ∧ i ≤ l.length ∧ St1 (pre i) H', ⟨l.length, rfl, Nat.zero_le _, G1, gg1, Same.refl _, hh1.fresh nD ⟨[], rfl, .nil⟩⟩, ?_⟩
  rintro i m H' ⟨rfl, hi', G', g', gs, hh'⟩
  by_cases hlt : i < l.length
  · have hx : l[i]? = some l[i] := List.getElem?_eq_getElem hlt
    have hd : (l.map enc1)[i]? = some (enc1 l[i]) := by rw [List.getElem?_map, hx]; rfl
    refine .inr ⟨Y.go i H' (by rw [List.length_map]; exact hlt) (gs.trans hh'.g), St1 (pre (i + 1)), fun H2 q => ⟨l.length - (i + 1), by omega, rfl, hlt, q⟩, fun x H2 y => ?_⟩
    obtain ⟨G2, g2, hh2, r2⟩ := Y.yl i H' x H2 F G' _ _ gs hh' y hd
    have lend : ∀ {G3 H3 : Hp} {acc : List PyData}, HH X.K F G3 H3 ((D, .lst (acc.map .d)) :: hs1) → ∃ F2, HH X.K F2 G3 H3 hs1 ∧ ∀ G4 H4, Grow F2 G3 G4 → HH X.K F2 G4 H4 hs1 → Grow F G3 G4 ∧ HH X.K F G4 H4 ((D, .lst (acc.map .d)) :: hs1) := fun {G3 H3 acc} h3 => by
      obtain ⟨F2, a1, a2⟩ := h3.lend (hc := hs1) (hr := [(D, .lst (acc.map .d))]) (List.perm_append_comm (l₁ := [(D, OC.lst (acc.map EV.d))]) (l₂ := hs1))
      exact ⟨F2, a1, fun G4 H4 g4 h4 => by
        obtain ⟨b1, b2⟩ := a2 G4 H4 hs1 g4 h4
        exact ⟨b1, b2.perm List.perm_append_comm⟩⟩
    obtain ⟨F2, hhc, back⟩ := lend hh2
    have gA := g'.trans g2
    have slw := sl_wipe (sl.mono gA.up) (own.map (·.2))
    intro sB HB CB clB fpB pinsB sB' uB IB rB
    refine thn ((hb _ (List.mem_of_getElem? hx) sB HB CB clB fpB).run F2 G2 H2 (wipe σ (own.map (·.2))) x hhc slw (by rw [wipeS_len]; exact hl) r2 pinsB sB' uB IB rB) fun _ s3 ⟨σ3, H3, I3, ⟨G3, ss3, hs3, g3, hh3, sl3, hl3, e3, q3, q4⟩, ln, ag⟩ => ⟨σ3, H3, I3, ?_, ?_⟩
    · rw [wipe_same ln ag, wipe_wipe]
    · subst e3
      obtain ⟨b1, b2⟩ := back G3 H3 g3 hh3
      have gB := gA.trans b1
      have gsB := (gs.trans g2.up).trans b1.up
      refine iteT (A := wi1 σ3 H3 _) (B := St1 (pre (i + 1)) H3) fun sI HI CI clI fpI => ?_
      obtain ⟨F3, hhd, back3⟩ := lend b2
      refine WI.mono ((q3 sI HI CI clI fpI).run F3 G3 H3 σ3 hhd sl3) ?_
      rintro J1 H4 ⟨G4, items1, hs4, g4, hh4, Y1, e1, e2⟩
      subst e1
      subst e2
      obtain ⟨c1, c2⟩ := back3 G4 H4 g4 hh4
      have nx : pre (i + 1) = pre i ++ ((l2 l[i]).filter (p l[i])).map (f l[i]) := by
        show ((l.take (i + 1)).flatMap _) = _
        rw [List.take_add_one, hx, List.flatMap_append]
        show _ = (l.take i).flatMap _ ++ _
        simp
      refine ⟨fun j k H' => k = (l2 l[i]).length - j ∧ j ≤ (l2 l[i]).length ∧ ∃ G', Grow F G G' ∧ Same G1 G' ∧ Same G4 G' ∧ HH X.K F G' H' ((D, .lst ((pre i ++ (((l2 l[i]).take j).filter (p l[i])).map (f l[i])).map .d)) :: hs4),
        ⟨(l2 l[i]).length, rfl, Nat.zero_le _, G4, gB.trans c1, gsB.trans c1.up, Same.refl _, by rw [List.take_zero, List.filter_nil, List.map_nil, List.append_nil]; exact c2⟩, ?_⟩
      rintro j k H5 ⟨rfl, hj, G5, g5, gs5, gs45, hh5⟩
      by_cases hjl : j < (l2 l[i]).length
      · have hy : (l2 l[i])[j]? = some (l2 l[i])[j] := List.getElem?_eq_getElem hjl
        have hd1 : ((l2 l[i]).map enc2)[j]? = some (enc2 (l2 l[i])[j]) := by rw [List.getElem?_map, hy]; rfl
        refine .inr ⟨Y1.go j H5 (by rw [List.length_map]; exact hjl) (gs45.trans hh5.g), _, fun H6 q => ⟨(l2 l[i]).length - (j + 1), by omega, rfl, hjl, q⟩, fun x1 H6 y1 => ?_⟩
        obtain ⟨G6, g6, hh6, r6⟩ := Y1.yl j H5 x1 H6 F G5 _ _ gs45 hh5 y1 hd1
        obtain ⟨F6, hh6', back6⟩ := lend hh6
        have sl6 := sl_wipe (sl3.mono ((c1.up.trans gs45).trans g6.up)) (own1.map (·.2))
        intro sT HT' CT clT fpT pinsT sT' uT IT rT
        refine thn ((q4 _ (List.mem_of_getElem? hy) sT HT' CT clT fpT).run F6 G6 H6 (wipe σ3 (own1.map (·.2))) x1 hh6' sl6 (by rw [wipeS_len]; exact hl3) r6 pinsT sT' uT IT rT) fun _ s7 ⟨σ7, H7, I7, ⟨G7, ss7, hs7, g7, hh7, sl7, hl7, e7, q7, q8⟩, ln7, ag7⟩ => ⟨σ7, H7, I7, ?_, ?_⟩
        · rw [wipe_same ln7 ag7, wipe_wipe]
        · subst e7
          refine q7.run hh7 sl7 fun G8 H8 g8 hh8 => ?_
          have tkj : ((l2 l[i]).take (j + 1)).filter (p l[i]) = ((l2 l[i]).take j).filter (p l[i]) ++ [(l2 l[i])[j]].filter (p l[i]) := by
            rw [List.take_add_one, hy, List.filter_append]
            rfl
          cases hp : p l[i] (l2 l[i])[j] with
          | false =>
            obtain ⟨d1, d2⟩ := back6 G8 H8 (g7.trans g8) hh8
            refine iteF ⟨G8, (g5.trans g6).trans d1, (gs5.trans g6.up).trans d1.up, (gs45.trans g6.up).trans d1.up, ?_⟩
            rw [tkj, List.filter_cons, hp, if_neg Bool.false_ne_true, List.filter_nil, List.append_nil]
            exact d2
          | true =>
            refine iteT fun sE HE CE clE fpE => ((q8 hp sE HE CE clE fpE).run F6 G8 H8 σ7 hh8 (sl7.mono g8.up)).mono fun y H9 ⟨G9, ev, hs9, g9, hh9, r9, e9, e10⟩ => ?_
            subst e9
            subst e10
            obtain ⟨d1, d2⟩ := back6 G9 H9 ((g7.trans g8).trans g9) hh9
            obtain ⟨p1, p2, ob, p3, xs, rfl, p4⟩ := d2.own D _ List.mem_cons_self
            have lx : xs.length < sizeLine := by
              rw [Paired.length p4, List.length_map]
              have h1 : (pre i ++ (((l2 l[i]).take (j + 1)).filter (p l[i])).map (f l[i])).length ≤ (l.flatMap fun x => ((l2 x).filter (p x)).map (f x)).length := by
                have e1 : l.flatMap (fun x => ((l2 x).filter (p x)).map (f x)) = pre (i + 1) ++ (l.drop (i + 1)).flatMap (fun x => ((l2 x).filter (p x)).map (f x)) := by
                  show _ = (l.take (i + 1)).flatMap _ ++ _
                  rw [← List.flatMap_append, List.take_append_drop]
                have h2 : ((((l2 l[i]).take (j + 1)).filter (p l[i])).map (f l[i])).length ≤ (((l2 l[i]).filter (p l[i])).map (f l[i])).length := by
                  rw [List.length_map, List.length_map]
                  exact ((List.take_sublist _ _).filter _).length_le
                rw [e1, nx, List.length_append, List.length_append, List.length_append]
                omega
              rw [tkj, List.filter_cons, hp, if_pos rfl, List.filter_nil, List.map_append, List.length_append, List.length_append] at h1
              rw [List.length_append]
              have h3 : ([(l2 l[i])[j]].map (f l[i])).length = 1 := rfl
              omega
            refine ⟨xs, p3, lx, G9, (g5.trans g6).trans d1, (gs5.trans g6.up).trans d1.up, (gs45.trans g6.up).trans d1.up, ?_⟩
            refine d2.puts .here ⟨xs ++ [y], rfl, ?_⟩
            have e11 : pre i ++ (((l2 l[i]).take (j + 1)).filter (p l[i])).map (f l[i]) = (pre i ++ (((l2 l[i]).take j).filter (p l[i])).map (f l[i])) ++ [f l[i] (l2 l[i])[j]] := by
              rw [tkj, List.filter_cons, hp, if_pos rfl, List.filter_nil, List.map_append, List.append_assoc]
              rfl
            rw [e11]
            exact d_paired (dpA_app (paired_d p4) (.cons r9 .nil))
      · have e : j = (l2 l[i]).length := by omega
        subst e
        have stp := Y1.stop H5 (gs45.trans hh5.g)
        rw [List.length_map] at stp
        refine .inl ⟨stp, G5, g5, gs5, ?_⟩
        rw [nx]
        rw [List.take_length] at hh5
        exact hh5
  · have e : i = l.length := by omega
    subst e
    have stp := Y.stop H' (gs.trans hh'.g)
    rw [List.length_map] at stp
    obtain ⟨G2, g2, hh2, r2⟩ := hh'.freeze
    refine .inl ⟨stp, G2, .d _, hs1, g'.trans g2, hh2, r2, ?_, rfl⟩
    show EV.d (.list ((l.take l.length).flatMap _)) = _
    rw [List.take_length]
theorem gp_lc2 {α β : Type} {ifs1 : List Expr} {scope : Scope} (own own1 : List (Str × Nat)) (l : List α) (l2 : α → List β) (enc1 : α → PyData) (enc2 : β → PyData) (p : α → β → Bool) (f : α → β → PyData) (hc : X.calm = true) (hN : X.N.Nodup)
    (hi : GIP X tg iter ss hs (l.map enc1)) (hz : (l.flatMap fun x => ((l2 x).filter (p x)).map (f x)).length ≤ sizeLine)
    (hb : ∀ x ∈ l, BC X scope fun Y => GG Y tg (.d (enc1 x)) (wipeS ss (own.map (·.2))) hs (own.map (·.2)) fun ss2 hs2 => hs2 = hs ∧ (BC X scope fun Y => GIP Y tg1 iter1 ss2 hs ((l2 x).map enc2)) ∧
      ∀ y ∈ l2 x, BC X scope fun Y => GG Y tg1 (.d (enc2 y)) (wipeS ss2 (own1.map (·.2))) hs (own1.map (·.2)) fun ss3 hs3 => hs3 = hs ∧ PIfs X scope ifs1 ss3 hs (p x y) ∧ (p x y = true → BC X scope fun Y => GP Y elt ss3 hs (f x y)))
    (hif : ifs1.length ≤ 1 := by decide) (ok : blkC X.N X.env.scope scope own = true := by first | rfl | decide +kernel) (hv : ∀ i ∈ own1.map (·.2), i ∈ own.map (·.2) := by decide) (hfs : ∀ x, foldedSetIterable iter X.env x = pure x := by intro _; rfl) (hfs1 : ∀ env x, foldedSetIterable iter1 env x = pure x := by intro _ _; rfl) (hl : ss.length ≤ X.N.length := by exact Nat.le_of_ble_eq_true rfl) :
    GP X (.ListComp elt [⟨tg, iter, [], 0⟩, ⟨tg1, iter1, ifs1, 0⟩] scope pos) ss hs (.list (l.flatMap fun x => ((l2 x).filter (p x)).map (f x))) := (lp_lc2 own own1 l l2 enc1 enc2 p f hc hN hi hz hb hif ok hv hfs hfs1 hl).val
end
end Asl

/-! Asl: defs of a text, and who calls them. -/
namespace Asl
open PySem PySem.Spec L2 PySem.W
open PyProof.Rows hiding St
open PyE (enc)
/-- the def x of the text stands, with its place -/
structure Def (K : PySem.W.Frag) (mg : Str → Option Value) (x : Str) (st : Stmt) (ps : List Str) : Prop where
  ex : ∃ f fd, Fun K x x st f fd ∧ Binds K fd ps [] ∧ mg x = some (.ref f)
/-- the def x keeps S, at a level -/
structure Callee (P : Program) (w : World) (K : PySem.W.Frag) (mg : Str → Option Value) (base : Heap) (k : Nat) (x : Str) (ps : List Str) (S : FS) : Prop where
  ex : ∃ f fd, FnA P w K mg base k f fd ps S ∧ mg x = some (.ref f) ∧ PySem.W.keepIn K (.ref f) = true ∧ Binds K fd ps []
abbrev BX (P : Program) (w : World) (K : PySem.W.Frag) (mg : Str → Option Value) (base : Heap) (N : List Str) (x : Str) (st : Stmt) (f : Addr) (cdv : Value) (A : Around) (outer : List Env) (s : Shared) (H : Hp) (E : XK) : Cx := (cxOf CX0 P w K mg base N x (defScope st) f cdv A outer s H E).nox
theorem GSs.pad {X : Cx} {st : List Stmt} {ss : Sl} {hs : Hs} {D : Out} (m : Nat) (h : GSs X st (ss ++ List.replicate m none) hs D) (hm : ss.length + m ≤ X.N.length) : GSs X st ss hs D := ⟨fun F G H σ hh sl hl =>
  h.run F G H σ hh (fun i ev q => by
    by_cases hi : i < ss.length
    · rw [List.getElem?_append_left hi] at q
      exact sl i ev q
    · rw [List.getElem?_append_right (by omega), List.getElem?_replicate] at q
      split at q <;> simp at q) (by rw [List.length_append, List.length_replicate]; exact hm)⟩
theorem mkC {P : Program} {w : World} {K : PySem.W.Frag} {mg : Str → Option Value} {base : Heap} {x : Str} {st : Stmt} {N ps : List Str} {k : Nat} {S : FS} (d : Def K mg x st ps) (SC : FnScope N ps (defScope st))
    (hbody : ∀ (f : Addr) (cdv : Value) (A : Around) (outer : List Env) (s : Shared) (H : Hp) (E : XK), Room k (BX P w K mg base N x st f cdv A outer s H E).A → ∀ args hs R, args.length = ps.length → S args hs R → GSs (BX P w K mg base N x st f cdv A outer s H E) (defBody st) (args.map some ++ List.replicate (N.length - ps.length) none) hs { nx := fun _ hs' => R (.d .none) hs', rt := R }) :
    Callee P w K mg base (k + 1) x ps S := by
  obtain ⟨f, fd, F, b, m⟩ := d.ex
  refine ⟨f, fd, fn_ok F SC fun X _ _ _ _ _ _ cdv A outer s H E e hr _ args hs R h1 h2 => ?_, m, F.kp, b⟩
  subst e
  have hpl : ps.length ≤ N.length := by
    have q := congrArg List.length SC.pre
    rw [List.length_take] at q
    omega
  refine (hbody f cdv A outer s H E hr args hs R h1 h2).pad (N.length - ps.length) ?_
  rw [List.length_map, h1]
  show ps.length + (N.length - ps.length) ≤ N.length
  omega
theorem fn_okP {P : Program} {w : World} {K : PySem.W.Frag} {mg : Str → Option Value} {base : Heap} {x : Str} {st : Stmt} {f : Addr} {fd : FuncData} {N ps : List Str} {k : Nat} {S : FS} (F : Fun K x x st f fd) (SC : FnScope N ps (defScope st))
    (hbody : ∀ (f : Addr) (cdv : Value) (A : Around) (outer : List Env) (s : Shared) (H : Hp) (E : XK), Room k (BX P w K mg base N x st f cdv A outer s H E).A → ∀ args hs R, args.length = ps.length → S args hs R → GSs (BX P w K mg base N x st f cdv A outer s H E) (defBody st) (args.map some ++ List.replicate (N.length - ps.length) none) hs { nx := fun _ hs' => R (.d .none) hs', rt := R }) :
    FnA P w K mg base (k + 1) f fd ps S :=
  fn_ok F SC fun X _ _ _ _ _ _ cdv A outer s H E e hr _ args hs R h1 h2 => by
  subst e
  have hpl : ps.length ≤ N.length := by
    have q := congrArg List.length SC.pre
    rw [List.length_take] at q
    omega
  refine (hbody f cdv A outer s H E hr args hs R h1 h2).pad (N.length - ps.length) ?_
  rw [List.length_map, h1]
  show ps.length + (N.length - ps.length) ≤ N.length
  omega
section
variable {X : Cx} {k j : Nat} {ps : List Str} {S : FS} {x : Str} {p pos : Pos} {e : Expr} {es : List Expr} {ss : Sl} {hs : Hs}
theorem Callee.mono {P : Program} {w : World} {K : PySem.W.Frag} {mg : Str → Option Value} {base : Heap} (C : Callee P w K mg base j x ps S) (h : j ≤ k) : Callee P w K mg base k x ps S := by
  obtain ⟨f, fd, F, r⟩ := C.ex
  exact ⟨f, fd, F.mono h, r⟩
/-- a call: nothing is lent -/
theorem ge_c0 (C : Callee X.prog X.w X.K X.mg X.base j x ps S) (hr : Room k X.A) {Φ : EV → Hs → Prop} (h : GA X (e :: es) ss hs fun evs hs1 => evs.length = ps.length ∧ S evs [] fun ev hc' => Φ ev (hc' ++ hs1)) (hj : j ≤ k := by decide)
    (hg : Gl X x := by rfl) (hdb : (x == ("__debug__" : Str)) = false := by decide) (he : starEach (e :: es) X.env = (false, eval e X.env) :: starEach es X.env := by rfl) (hpl : (backTo pos (starEach es X.env)).any (·.1) = false := by rfl) :
    GE X (.Call (.Name x p) (e :: es) [] pos) ss hs Φ := by
  obtain ⟨f, fd, F, m, kp, b⟩ := C.ex
  exact ge_call0 F (hr.mono hj) m kp b h hg hdb he hpl
/-- a call: the first object is lent -/
theorem ge_c1 (C : Callee X.prog X.w X.K X.mg X.base j x ps S) (hr : Room k X.A) {Φ : EV → Hs → Prop} (h : GA X (e :: es) ss hs fun evs hs1 => evs.length = ps.length ∧ ∃ o rest, hs1 = o :: rest ∧ S evs [o] fun ev hc' => Φ ev (hc' ++ rest)) (hj : j ≤ k := by decide)
    (hg : Gl X x := by rfl) (hdb : (x == ("__debug__" : Str)) = false := by decide) (he : starEach (e :: es) X.env = (false, eval e X.env) :: starEach es X.env := by rfl) (hpl : (backTo pos (starEach es X.env)).any (·.1) = false := by rfl) :
    GE X (.Call (.Name x p) (e :: es) [] pos) ss hs Φ := by
  obtain ⟨f, fd, F, m, kp, b⟩ := C.ex
  exact ge_call1 F (hr.mono hj) m kp b h hg hdb he hpl
theorem gp_c (C : Callee X.prog X.w X.K X.mg X.base j x ps S) (hr : Room k X.A) {ds : List PyData} {d : PyData} (h : GAP X (e :: es) ss hs ds) (q : Pure S ds d) (hj : j ≤ k := by decide) (hl : ds.length = ps.length := by rfl)
    (hg : Gl X x := by rfl) (hdb : (x == ("__debug__" : Str)) = false := by decide) (he : starEach (e :: es) X.env = (false, eval e X.env) :: starEach es X.env := by rfl) (hpl : (backTo pos (starEach es X.env)).any (·.1) = false := by rfl) :
    GP X (.Call (.Name x p) (e :: es) [] pos) ss hs d := by
  obtain ⟨f, fd, F, m, kp, b⟩ := C.ex
  exact gp_call F (hr.mono hj) m kp b h q hl hg hdb he hpl
end
/-- a pure def of one, two, three, four typed arguments: where it is asked, what it gives -/
def F1 {α : Type} (ea : α → PyData) (C : α → Prop) (v : α → PyData) : FS := fun args hs R => ∃ a, args = [.d (ea a)] ∧ C a ∧ R (.d (v a)) hs
def F2 {α β : Type} (ea : α → PyData) (eb : β → PyData) (C : α → β → Prop) (v : α → β → PyData) : FS := fun args hs R => ∃ a b, args = [.d (ea a), .d (eb b)] ∧ C a b ∧ R (.d (v a b)) hs
def F3 {α β γ : Type} (ea : α → PyData) (eb : β → PyData) (ec : γ → PyData) (C : α → β → γ → Prop) (v : α → β → γ → PyData) : FS := fun args hs R => ∃ a b c, args = [.d (ea a), .d (eb b), .d (ec c)] ∧ C a b c ∧ R (.d (v a b c)) hs
def F4 {α β γ δ : Type} (ea : α → PyData) (eb : β → PyData) (ec : γ → PyData) (ed : δ → PyData) (C : α → β → γ → δ → Prop) (v : α → β → γ → δ → PyData) : FS := fun args hs R => ∃ a b c d, args = [.d (ea a), .d (eb b), .d (ec c), .d (ed d)] ∧ C a b c d ∧ R (.d (v a b c d)) hs
theorem pF1 {α : Type} {ea : α → PyData} {C : α → Prop} {v : α → PyData} (a : α) (h : C a) : Pure (F1 ea C v) [ea a] (v a) := fun R r => ⟨a, rfl, h, r⟩
theorem pF2 {α β : Type} {ea : α → PyData} {eb : β → PyData} {C : α → β → Prop} {v : α → β → PyData} (a : α) (b : β) (h : C a b) : Pure (F2 ea eb C v) [ea a, eb b] (v a b) := fun R r => ⟨a, b, rfl, h, r⟩
theorem pF3 {α β γ : Type} {ea : α → PyData} {eb : β → PyData} {ec : γ → PyData} {C : α → β → γ → Prop} {v : α → β → γ → PyData} (a : α) (b : β) (c : γ) (h : C a b c) : Pure (F3 ea eb ec C v) [ea a, eb b, ec c] (v a b c) := fun R r => ⟨a, b, c, rfl, h, r⟩
theorem pF4 {α β γ δ : Type} {ea : α → PyData} {eb : β → PyData} {ec : γ → PyData} {ed : δ → PyData} {C : α → β → γ → δ → Prop} {v : α → β → γ → δ → PyData} (a : α) (b : β) (c : γ) (d : δ) (h : C a b c d) : Pure (F4 ea eb ec ed C v) [ea a, eb b, ec c, ed d] (v a b c d) := fun R r => ⟨a, b, c, d, rfl, h, r⟩
/-- script[:k] walked -/
theorem gi_script {X : Cx} {tg e : Expr} {ss : Sl} {hs : Hs} {pos p2 : Pos} {ns : List Int} {hi : Option Expr} {k : Int} {Φ : List PyData → Hs → Prop} (h : GE X e ss hs fun ev hs1 => ev = .z ns ∧ hs1 = hs) (hk : GO X ss hs hi (some k)) (h0 : 0 ≤ k) (q : Φ ((ns.take k.toNat).map .int) hs) :
    GI X tg (.Subscript e (.Slice none hi none p2) pos) ss hs Φ := ⟨fun F G H σ hh sl =>
  wi_of (pi_list (pe_slice sl_list pe_we po_none po_wo)) ((h.run F G H σ hh sl).mono fun v H1 ⟨G1, ev, hs1, g1, hh1, r1, e1, e2⟩ => by
    subst e1
    subst e2
    obtain ⟨a, rfl, sq⟩ := r1
    intro pins s I
    refine thn (hk.run hh1 (sl.mono g1.up) pins s I) fun u s' ⟨o, H2, I2, pt, G2, g2, hh2, e3⟩ => ⟨o, H2, I2, pt, ?_⟩
    subst e3
    refine ⟨a, _, rfl, sqL_mono (g2.up.trans hh2.g) sq, fun c nc => ⟨c, rfl, ⟨_, SqL.of upd_same⟩, ?_⟩⟩
    have e : cutV (ns.map V.int) none (some k) = (ns.take k.toNat).map .int := by
      obtain ⟨n, rfl⟩ := Int.eq_ofNat_of_zero_le h0
      unfold cutV
      rw [HT.sIx_nat, HT.sIx_none, Int.toNat_natCast, List.drop_zero, Nat.sub_zero, ← List.map_take]
      by_cases hn : n ≤ (ns.map V.int).length
      · rw [Nat.min_eq_left hn]
      · rw [Nat.min_eq_right (by omega), List.take_of_length_le (by rw [List.length_map]; exact Nat.le_refl _), List.take_of_length_le (by rw [List.length_map] at hn; omega)]
    rw [e]
    obtain ⟨g3, hh3⟩ := hh2.data (o := .lst ((ns.take k.toNat).map .int)) nc
    exact ⟨_, _, _, (g1.trans g2).trans g3, hh3, yl_lst upd_same (ints_dpA _), q⟩)⟩
/-- the law itself: its end -/
def SLaw : FS := fun args hs R => ∃ ns, args = [.z ns] ∧ R (.d (.bool true)) hs
theorem law_sp {K : PySem.W.Frag} {H : Hp} {a : Addr} {ns : List Int} (hS : SqL K H a (ns.map V.int)) : spOf K 1 SLaw [.ref a] H (fun v _ => v = .bl true) (fun _ _ _ => False) :=
  ⟨fun _ => none, H, [.z ns], [], fun ev _ => ev = .d (.bool true), ⟨(fun _ _ e => nomatch e), Same.refl _, (fun _ _ m => nomatch m), List.Pairwise.nil⟩, .cons ⟨a, rfl, hS⟩ .nil, rfl, ⟨ns, rfl, rfl⟩, fun v H' ⟨G', ev, hs', _, _, r, e⟩ => by
    subst e
    exact dt_bl r⟩
end Asl

/-! Asl: the built-ins in short. -/
namespace Asl
open PySem PySem.Spec L2 PySem.W
open PyProof.Rows hiding St
open PyE (enc)
section
variable {X : Cx} {e e2 i a b : Expr} {ss : Sl} {hs : Hs} {pos p p2 : Pos} {α : Type} {f : α → PyData} {l : List α} {ns : List Int}
theorem gp_fromL {n : Int} (h : GP X e ss hs (.list (l.map f))) (hi : GP X i ss hs (.int n)) (h0 : 0 ≤ n) : GP X (.Subscript e (.Slice (some i) none none p2) pos) ss hs (.list ((l.drop n.toNat).map f)) :=
  (gp_slice false h (.some hi) .none).is (by rw [cut_from _ _ h0, List.map_drop]; rfl)
theorem gp_toL {n : Int} (h : GP X e ss hs (.list (l.map f))) (hi : GP X i ss hs (.int n)) (h0 : 0 ≤ n) : GP X (.Subscript e (.Slice none (some i) none p2) pos) ss hs (.list ((l.take n.toNat).map f)) :=
  (gp_slice false h .none (.some hi)).is (by rw [cut_to _ _ h0, List.map_take]; rfl)
theorem gp_fromT {n : Int} (h : GP X e ss hs (.tuple (l.map f))) (hi : GP X i ss hs (.int n)) (h0 : 0 ≤ n) : GP X (.Subscript e (.Slice (some i) none none p2) pos) ss hs (.tuple ((l.drop n.toNat).map f)) :=
  (gp_slice true h (.some hi) .none).is (by rw [cut_from _ _ h0, List.map_drop]; rfl)
theorem gp_toT {n : Int} (h : GP X e ss hs (.tuple (l.map f))) (hi : GP X i ss hs (.int n)) (h0 : 0 ≤ n) : GP X (.Subscript e (.Slice none (some i) none p2) pos) ss hs (.tuple ((l.take n.toNat).map f)) :=
  (gp_slice true h .none (.some hi)).is (by rw [cut_to _ _ h0, List.map_take]; rfl)
theorem gp_sumL (hm : X.mg "sum" = none) (hc : X.calm = true) (h : GP X e ss hs (.list (ns.map .int))) (hg : Gl X "sum" := by rfl) (he : starEach [e] X.env = (false, eval e X.env) :: starEach [] X.env := by rfl) (hpl : (backTo pos (starEach [] X.env)).any (·.1) = false := by rfl) : GP X (.Call (.Name "sum" p) [e] [] pos) ss hs (.int ns.sum) :=
  gp_bi hm (by decide +kernel) (gap_cons h gap_nil he) (k_sumL hc) hg (by decide) (by decide) he hpl
theorem gp_sumT (hm : X.mg "sum" = none) (hc : X.calm = true) (h : GP X e ss hs (.tuple (ns.map .int))) (hg : Gl X "sum" := by rfl) (he : starEach [e] X.env = (false, eval e X.env) :: starEach [] X.env := by rfl) (hpl : (backTo pos (starEach [] X.env)).any (·.1) = false := by rfl) : GP X (.Call (.Name "sum" p) [e] [] pos) ss hs (.int ns.sum) :=
  gp_bi hm (by decide +kernel) (gap_cons h gap_nil he) (k_sumT hc) hg (by decide) (by decide) he hpl
theorem gp_lenT {ds : List PyData} (hm : X.mg "len" = none) (h : GP X e ss hs (.tuple ds)) (hg : Gl X "len" := by rfl) (he : starEach [e] X.env = (false, eval e X.env) :: starEach [] X.env := by rfl) (hpl : (backTo pos (starEach [] X.env)).any (·.1) = false := by rfl) : GP X (.Call (.Name "len" p) [e] [] pos) ss hs (.int ds.length) :=
  gp_bi hm PySem.boot_len (gap_cons h gap_nil he) k_lenT hg (by decide) (by decide) he hpl
theorem gp_lenL {ds : List PyData} (hm : X.mg "len" = none) (h : GP X e ss hs (.list ds)) (hg : Gl X "len" := by rfl) (he : starEach [e] X.env = (false, eval e X.env) :: starEach [] X.env := by rfl) (hpl : (backTo pos (starEach [] X.env)).any (·.1) = false := by rfl) : GP X (.Call (.Name "len" p) [e] [] pos) ss hs (.int ds.length) :=
  gp_bi hm PySem.boot_len (gap_cons h gap_nil he) k_lenL hg (by decide) (by decide) he hpl
theorem gp_tuple {ds : List PyData} (hm : X.mg "tuple" = none) (h : GP X e ss hs (.list ds)) (hg : Gl X "tuple" := by rfl) (he : starEach [e] X.env = (false, eval e X.env) :: starEach [] X.env := by rfl) (hpl : (backTo pos (starEach [] X.env)).any (·.1) = false := by rfl) : GP X (.Call (.Name "tuple" p) [e] [] pos) ss hs (.tuple ds) :=
  gp_ty hm (by decide +kernel) (gap_cons h gap_nil he) k_tupL hg (by decide) (by decide) he hpl
theorem gp_tupleT {ds : List PyData} (hm : X.mg "tuple" = none) (h : GP X e ss hs (.tuple ds)) (hg : Gl X "tuple" := by rfl) (he : starEach [e] X.env = (false, eval e X.env) :: starEach [] X.env := by rfl) (hpl : (backTo pos (starEach [] X.env)).any (·.1) = false := by rfl) : GP X (.Call (.Name "tuple" p) [e] [] pos) ss hs (.tuple ds) :=
  gp_ty hm (by decide +kernel) (gap_cons h gap_nil he) k_tupT hg (by decide) (by decide) he hpl
theorem ge_tuple {Φ : EV → Hs → Prop} (hm : X.mg "tuple" = none) (h : GE X e ss hs fun ev h => ∃ ds, ev = .d (.list ds) ∧ Φ (.d (.tuple ds)) h) (hg : Gl X "tuple" := by rfl) (he : starEach [e] X.env = (false, eval e X.env) :: starEach [] X.env := by rfl) (hpl : (backTo pos (starEach [] X.env)).any (·.1) = false := by rfl) : GE X (.Call (.Name "tuple" p) [e] [] pos) ss hs Φ :=
  ge_ty hm (by decide +kernel) (ga_cons (h.mono fun ev h ⟨ds, e1, q⟩ => ga_nil ⟨[.list ds], _, by rw [e1]; rfl, k_tupL, q⟩) he) hg (by decide) (by decide) he hpl
theorem gp_listT {ds : List PyData} (hm : X.mg "list" = none) (h : GP X e ss hs (.tuple ds)) (hg : Gl X "list" := by rfl) (he : starEach [e] X.env = (false, eval e X.env) :: starEach [] X.env := by rfl) (hpl : (backTo pos (starEach [] X.env)).any (·.1) = false := by rfl) : GP X (.Call (.Name "list" p) [e] [] pos) ss hs (.list ds) :=
  gp_ty hm (by decide +kernel) (gap_cons h gap_nil he) k_listT hg (by decide) (by decide) he hpl
theorem gp_int1 {n : Int} (hm : X.mg "int" = none) (h : GP X e ss hs (.int n)) (hg : Gl X "int" := by rfl) (he : starEach [e] X.env = (false, eval e X.env) :: starEach [] X.env := by rfl) (hpl : (backTo pos (starEach [] X.env)).any (·.1) = false := by rfl) : GP X (.Call (.Name "int" p) [e] [] pos) ss hs (.int n) :=
  gp_ty hm (by decide +kernel) (gap_cons h gap_nil he) k_int hg (by decide) (by decide) he hpl
theorem gp_intB {c : Bool} (hm : X.mg "int" = none) (h : GP X e ss hs (.bool c)) (hg : Gl X "int" := by rfl) (he : starEach [e] X.env = (false, eval e X.env) :: starEach [] X.env := by rfl) (hpl : (backTo pos (starEach [] X.env)).any (·.1) = false := by rfl) : GP X (.Call (.Name "int" p) [e] [] pos) ss hs (.int (if c then 1 else 0)) :=
  gp_ty hm (by decide +kernel) (gap_cons h gap_nil he) k_intB hg (by decide) (by decide) he hpl
theorem ge_int1 {Φ : EV → Hs → Prop} (hm : X.mg "int" = none) (h : GE X e ss hs fun ev h => ∃ n, ev = .d (.int n) ∧ Φ (.d (.int n)) h) (hg : Gl X "int" := by rfl) (he : starEach [e] X.env = (false, eval e X.env) :: starEach [] X.env := by rfl) (hpl : (backTo pos (starEach [] X.env)).any (·.1) = false := by rfl) : GE X (.Call (.Name "int" p) [e] [] pos) ss hs Φ :=
  ge_ty hm (by decide +kernel) (ga_cons (h.mono fun ev h ⟨n, e1, q⟩ => ga_nil ⟨[.int n], _, by rw [e1]; rfl, k_int, q⟩) he) hg (by decide) (by decide) he hpl
theorem ge_intB {Φ : EV → Hs → Prop} (hm : X.mg "int" = none) (h : GE X e ss hs fun ev h => ∃ c : Bool, ev = .d (.bool c) ∧ Φ (.d (.int (if c then 1 else 0))) h) (hg : Gl X "int" := by rfl) (he : starEach [e] X.env = (false, eval e X.env) :: starEach [] X.env := by rfl) (hpl : (backTo pos (starEach [] X.env)).any (·.1) = false := by rfl) : GE X (.Call (.Name "int" p) [e] [] pos) ss hs Φ :=
  ge_ty hm (by decide +kernel) (ga_cons (h.mono fun ev h ⟨n, e1, q⟩ => ga_nil ⟨[.bool n], _, by rw [e1]; rfl, k_intB, q⟩) he) hg (by decide) (by decide) he hpl
theorem gp_abs {n : Int} (hm : X.mg "abs" = none) (h : GP X e ss hs (.int n)) (hg : Gl X "abs" := by rfl) (he : starEach [e] X.env = (false, eval e X.env) :: starEach [] X.env := by rfl) (hpl : (backTo pos (starEach [] X.env)).any (·.1) = false := by rfl) : GP X (.Call (.Name "abs" p) [e] [] pos) ss hs (.int (if n < 0 then -n else n)) :=
  gp_bi hm (by decide +kernel) (gap_cons h gap_nil he) k_abs hg (by decide) (by decide) he hpl
theorem gp_all {bs : List Bool} (hm : X.mg "all" = none) (hc : X.calm = true) (h : GP X e ss hs (.list (bs.map .bool))) (hg : Gl X "all" := by rfl) (he : starEach [e] X.env = (false, eval e X.env) :: starEach [] X.env := by rfl) (hpl : (backTo pos (starEach [] X.env)).any (·.1) = false := by rfl) : GP X (.Call (.Name "all" p) [e] [] pos) ss hs (.bool (bs.all id)) :=
  gp_bi hm (by decide +kernel) (gap_cons h gap_nil he) (k_all hc) hg (by decide) (by decide) he hpl
theorem gp_any {bs : List Bool} (hm : X.mg "any" = none) (hc : X.calm = true) (h : GP X e ss hs (.list (bs.map .bool))) (hg : Gl X "any" := by rfl) (he : starEach [e] X.env = (false, eval e X.env) :: starEach [] X.env := by rfl) (hpl : (backTo pos (starEach [] X.env)).any (·.1) = false := by rfl) : GP X (.Call (.Name "any" p) [e] [] pos) ss hs (.bool (bs.any id)) :=
  gp_bi hm (by decide +kernel) (gap_cons h gap_nil he) (k_any hc) hg (by decide) (by decide) he hpl
theorem gp_minL (hm : X.mg "min" = none) (hc : X.calm = true) (h : GP X e ss hs (.list (ns.map .int))) (hn : 0 < ns.length) (hg : Gl X "min" := by rfl) (he : starEach [e] X.env = (false, eval e X.env) :: starEach [] X.env := by rfl) (hpl : (backTo pos (starEach [] X.env)).any (·.1) = false := by rfl) : GP X (.Call (.Name "min" p) [e] [] pos) ss hs (.int (minI ns)) :=
  gp_bi hm (by decide +kernel) (gap_cons h gap_nil he) (k_min (t := false) hc hn) hg (by decide) (by decide) he hpl
theorem gp_minT (hm : X.mg "min" = none) (hc : X.calm = true) (h : GP X e ss hs (.tuple (ns.map .int))) (hn : 0 < ns.length) (hg : Gl X "min" := by rfl) (he : starEach [e] X.env = (false, eval e X.env) :: starEach [] X.env := by rfl) (hpl : (backTo pos (starEach [] X.env)).any (·.1) = false := by rfl) : GP X (.Call (.Name "min" p) [e] [] pos) ss hs (.int (minI ns)) :=
  gp_bi hm (by decide +kernel) (gap_cons h gap_nil he) (k_min (t := true) hc hn) hg (by decide) (by decide) he hpl
theorem gp_maxT (hm : X.mg "max" = none) (hc : X.calm = true) (h : GP X e ss hs (.tuple (ns.map .int))) (hn : 0 < ns.length) (hg : Gl X "max" := by rfl) (he : starEach [e] X.env = (false, eval e X.env) :: starEach [] X.env := by rfl) (hpl : (backTo pos (starEach [] X.env)).any (·.1) = false := by rfl) : GP X (.Call (.Name "max" p) [e] [] pos) ss hs (.int (maxI ns)) :=
  gp_bi hm (by decide +kernel) (gap_cons h gap_nil he) (k_max (t := true) hc hn) hg (by decide) (by decide) he hpl
/-- sorted of a list, a tuple of data of one type -/
theorem gp_sortedL {β : Type} {enc : β → PyData} {bs : List β} {k : Nat} (hr : Room k X.A) (hm : X.mg "sorted" = none) (S : Sorts enc bs) (hz : bs.length ≤ sizeLine) (h : GP X e ss hs (.list (bs.map enc))) (hg : Gl X "sorted" := by rfl) (he : starEach [e] X.env = (false, eval e X.env) :: starEach [] X.env := by rfl) (hpl : (backTo pos (starEach [] X.env)).any (·.1) = false := by rfl) :
    GP X (.Call (.Name "sorted" p) [e] [] pos) ss hs (.list ((bs.mergeSort (dataLe false enc)).map enc)) := gp_bi hm (by decide +kernel) (gap_cons h gap_nil he) (k_sortedL hr S hz) hg (by decide) (by decide) he hpl
theorem gp_sortedT {β : Type} {enc : β → PyData} {bs : List β} {k : Nat} (hr : Room k X.A) (hm : X.mg "sorted" = none) (S : Sorts enc bs) (hz : bs.length ≤ sizeLine) (h : GP X e ss hs (.tuple (bs.map enc))) (hg : Gl X "sorted" := by rfl) (he : starEach [e] X.env = (false, eval e X.env) :: starEach [] X.env := by rfl) (hpl : (backTo pos (starEach [] X.env)).any (·.1) = false := by rfl) :
    GP X (.Call (.Name "sorted" p) [e] [] pos) ss hs (.list ((bs.mergeSort (dataLe false enc)).map enc)) := gp_bi hm (by decide +kernel) (gap_cons h gap_nil he) (k_sortedT hr S hz) hg (by decide) (by decide) he hpl
theorem gp_isInt {d : PyData} (hm : X.mg "isinstance" = none) (hm2 : X.mg "int" = none) (h : GP X a ss hs d)
    (hg : Gl X "isinstance" := by rfl) (hg2 : Gl X "int" := by rfl) (he : starEach [a, .Name "int" p2] X.env = (false, eval a X.env) :: starEach [.Name "int" p2] X.env := by rfl) (he2 : starEach [.Name "int" p2] X.env = (false, eval (.Name "int" p2) X.env) :: starEach [] X.env := by rfl) (hpl : (backTo pos (starEach [.Name "int" p2] X.env)).any (·.1) = false := by rfl) :
    GP X (.Call (.Name "isinstance" p) [a, .Name "int" p2] [] pos) ss hs (.bool (isB d "int")) := gp_isi hm hm2 (by decide +kernel) ty_int h hg hg2 (by decide) (by decide) he he2 hpl
theorem gp_isBool {d : PyData} (hm : X.mg "isinstance" = none) (hm2 : X.mg "bool" = none) (h : GP X a ss hs d)
    (hg : Gl X "isinstance" := by rfl) (hg2 : Gl X "bool" := by rfl) (he : starEach [a, .Name "bool" p2] X.env = (false, eval a X.env) :: starEach [.Name "bool" p2] X.env := by rfl) (he2 : starEach [.Name "bool" p2] X.env = (false, eval (.Name "bool" p2) X.env) :: starEach [] X.env := by rfl) (hpl : (backTo pos (starEach [.Name "bool" p2] X.env)).any (·.1) = false := by rfl) :
    GP X (.Call (.Name "isinstance" p) [a, .Name "bool" p2] [] pos) ss hs (.bool (isB d "bool")) := gp_isi hm hm2 (by decide +kernel) ty_bool h hg hg2 (by decide) (by decide) he he2 hpl
theorem gp_isTuple {d : PyData} (hm : X.mg "isinstance" = none) (hm2 : X.mg "tuple" = none) (h : GP X a ss hs d)
    (hg : Gl X "isinstance" := by rfl) (hg2 : Gl X "tuple" := by rfl) (he : starEach [a, .Name "tuple" p2] X.env = (false, eval a X.env) :: starEach [.Name "tuple" p2] X.env := by rfl) (he2 : starEach [.Name "tuple" p2] X.env = (false, eval (.Name "tuple" p2) X.env) :: starEach [] X.env := by rfl) (hpl : (backTo pos (starEach [.Name "tuple" p2] X.env)).any (·.1) = false := by rfl) :
    GP X (.Call (.Name "isinstance" p) [a, .Name "tuple" p2] [] pos) ss hs (.bool (isB d "tuple")) := gp_isi hm hm2 (by decide +kernel) ty_tuple h hg hg2 (by decide) (by decide) he he2 hpl
theorem gp_isStr {d : PyData} (hm : X.mg "isinstance" = none) (hm2 : X.mg "str" = none) (h : GP X a ss hs d)
    (hg : Gl X "isinstance" := by rfl) (hg2 : Gl X "str" := by rfl) (he : starEach [a, .Name "str" p2] X.env = (false, eval a X.env) :: starEach [.Name "str" p2] X.env := by rfl) (he2 : starEach [.Name "str" p2] X.env = (false, eval (.Name "str" p2) X.env) :: starEach [] X.env := by rfl) (hpl : (backTo pos (starEach [.Name "str" p2] X.env)).any (·.1) = false := by rfl) :
    GP X (.Call (.Name "isinstance" p) [a, .Name "str" p2] [] pos) ss hs (.bool (isB d "str")) := gp_isi hm hm2 (by decide +kernel) ty_str h hg hg2 (by decide) (by decide) he he2 hpl
end
end Asl

/-! Asl: what the printed walks lean on. -/
namespace Asl
open PySem PySem.Spec L2 PySem.W
open PyProof.Rows hiding St
open PyE (enc)
theorem szl {n : Nat} (h : n ≤ 1000000) : n ≤ sizeLine := Nat.le_trans h (by decide)
theorem intR0 (n : Nat) : intR 0 n = (List.range n).map fun k : Nat => PyData.int (k : Int) := by
  unfold intR
  refine List.map_congr_left fun k _ => ?_
  rw [Int.zero_add]
theorem enums_map {α : Type} (f : α → PyData) (l : List α) : enums (l.map f) = l.zipIdx.map fun p => PyData.tuple [.int (p.2 : Nat), f p.1] := by
  unfold enums
  rw [List.zipIdx_map, List.map_map]
  rfl
theorem zips_map {α β : Type} (f : α → PyData) (g : β → PyData) (l : List α) (m : List β) : zips (l.map f) (m.map g) = (l.zip m).map fun p => PyData.tuple [f p.1, g p.2] := by
  unfold zips
  rw [List.zip_map, List.map_map]
  rfl
theorem rng_get {n i x : Nat} (h : (List.range n)[i]? = some x) : i = x ∧ x < n := by
  obtain ⟨h1, h2⟩ := List.getElem?_eq_some_iff.mp h
  rw [List.getElem_range] at h2
  rw [List.length_range] at h1
  omega
@[simp] theorem isB_tup (l : List PyData) : isB (.tuple l) "tuple" = true := rfl
@[simp] theorem isB_tup_int (l : List PyData) : isB (.tuple l) "int" = false := rfl
@[simp] theorem isB_tup_bool (l : List PyData) : isB (.tuple l) "bool" = false := rfl
@[simp] theorem isB_tup_str (l : List PyData) : isB (.tuple l) "str" = false := rfl
@[simp] theorem isB_int (i : Int) : isB (.int i) "int" = true := rfl
@[simp] theorem isB_int_bool (i : Int) : isB (.int i) "bool" = false := rfl
@[simp] theorem isB_int_tup (i : Int) : isB (.int i) "tuple" = false := rfl
@[simp] theorem isB_int_str (i : Int) : isB (.int i) "str" = false := rfl
@[simp] theorem isB_str (i : Str) : isB (.str i) "str" = true := rfl
@[simp] theorem isB_str_tup (i : Str) : isB (.str i) "tuple" = false := rfl
@[simp] theorem isB_str_int (i : Str) : isB (.str i) "int" = false := rfl
@[simp] theorem isB_str_bool (i : Str) : isB (.str i) "bool" = false := rfl
@[simp] theorem isB_bool (i : Bool) : isB (.bool i) "bool" = true := rfl
@[simp] theorem isB_bool_int (i : Bool) : isB (.bool i) "int" = true := rfl
@[simp] theorem isB_bool_tup (i : Bool) : isB (.bool i) "tuple" = false := rfl
@[simp] theorem isB_bool_str (i : Bool) : isB (.bool i) "str" = false := rfl
@[simp] theorem isB_non (T : String) (h : T = "int" ∨ T = "bool" ∨ T = "str" ∨ T = "tuple") : isB .none T = false := by
  rcases h with rfl | rfl | rfl | rfl <;> rfl
@[simp] theorem isN_int (i : Int) : isN (.int i) = false := rfl
@[simp] theorem isN_tup (i : List PyData) : isN (.tuple i) = false := rfl
@[simp] theorem isN_bool (i : Bool) : isN (.bool i) = false := rfl
@[simp] theorem isN_str (i : Str) : isN (.str i) = false := rfl
@[simp] theorem isN_lst (i : List PyData) : isN (.list i) = false := rfl
@[simp] theorem isN_non : isN .none = true := rfl
theorem pown {M : Model} {A : Around} {env : Env} : PassesOwn M A env (fun _ _ => False) := PassesOwn.never
theorem GI.eq {X : Cx} {tg iter : Expr} {ss : Sl} {hs : Hs} {ds ds' : List PyData} (h : GIP X tg iter ss hs ds) (e : ds = ds') : GIP X tg iter ss hs ds' := e ▸ h
section
variable {X : Cx} {tg iter tg1 iter1 elt : Expr} {ss : Sl} {hs : Hs} {pos : Pos}
theorem lp_lcM {α β : Type} {elt : Expr} {scope : Scope} {items : List PyData} (own : List (Str × Nat)) (l : List α) (enc : α → PyData) (f : α → β) (e2 : β → PyData) (hc : X.calm = true) (hN : X.N.Nodup) (hi : GIP X tg iter ss hs items) (e : items = l.map enc) (hz : l.length ≤ sizeLine)
    (hb : ∀ x ∈ l, BC X scope fun Y => GG Y tg (.d (enc x)) (wipeS ss (own.map (·.2))) hs (own.map (·.2)) fun ss2 hs2 => hs2 = hs ∧ BC X scope fun Y => GP Y elt ss2 hs (e2 (f x)))
    (ok : blkC X.N X.env.scope scope own = true := by first | rfl | decide +kernel) (hfs : ∀ x, foldedSetIterable iter X.env x = pure x := by intro _; rfl) (hl : ss.length ≤ X.N.length := by exact Nat.le_of_ble_eq_true rfl) : GLc X (.ListComp elt [⟨tg, iter, [], 0⟩] scope pos) ss hs fun ev h => ev = .d (.list ((l.map f).map e2)) ∧ h = hs := by
  have z := lp_lc (pos := pos) own l enc (fun x => e2 (f x)) hc hN hi e hz hb ok hfs hl
  rw [List.map_map]
  exact z
theorem gp_lcM {α β : Type} {elt : Expr} {scope : Scope} {items : List PyData} (own : List (Str × Nat)) (l : List α) (enc : α → PyData) (f : α → β) (e2 : β → PyData) (hc : X.calm = true) (hN : X.N.Nodup) (hi : GIP X tg iter ss hs items) (e : items = l.map enc) (hz : l.length ≤ sizeLine)
    (hb : ∀ x ∈ l, BC X scope fun Y => GG Y tg (.d (enc x)) (wipeS ss (own.map (·.2))) hs (own.map (·.2)) fun ss2 hs2 => hs2 = hs ∧ BC X scope fun Y => GP Y elt ss2 hs (e2 (f x)))
    (ok : blkC X.N X.env.scope scope own = true := by first | rfl | decide +kernel) (hfs : ∀ x, foldedSetIterable iter X.env x = pure x := by intro _; rfl) (hl : ss.length ≤ X.N.length := by exact Nat.le_of_ble_eq_true rfl) : GP X (.ListComp elt [⟨tg, iter, [], 0⟩] scope pos) ss hs (.list ((l.map f).map e2)) := (lp_lcM own l enc f e2 hc hN hi e hz hb ok hfs hl).val
theorem lp_lcIfM {α β : Type} {elt c : Expr} {scope : Scope} {items : List PyData} (own : List (Str × Nat)) (l : List α) (enc : α → PyData) (f : α → β) (e2 : β → PyData) (p : α → Bool) (hc : X.calm = true) (hN : X.N.Nodup) (hi : GIP X tg iter ss hs items) (e : items = l.map enc) (hz : l.length ≤ sizeLine)
    (hb : ∀ x ∈ l, BC X scope fun Y => GG Y tg (.d (enc x)) (wipeS ss (own.map (·.2))) hs (own.map (·.2)) fun ss2 hs2 => hs2 = hs ∧ BC X scope fun Y => GTP Y c ss2 hs (p x) ∧ (p x = true → GP Y elt ss2 hs (e2 (f x))))
    (ok : blkC X.N X.env.scope scope own = true := by first | rfl | decide +kernel) (hfs : ∀ x, foldedSetIterable iter X.env x = pure x := by intro _; rfl) (hl : ss.length ≤ X.N.length := by exact Nat.le_of_ble_eq_true rfl) : GLc X (.ListComp elt [⟨tg, iter, [c], 0⟩] scope pos) ss hs fun ev h => ev = .d (.list (((l.filter p).map f).map e2)) ∧ h = hs := by
  have z := lp_lcIf (pos := pos) own l enc (fun x => e2 (f x)) p hc hN hi e hz hb ok hfs hl
  rw [List.map_map]
  exact z
theorem gp_lcIfM {α β : Type} {elt c : Expr} {scope : Scope} {items : List PyData} (own : List (Str × Nat)) (l : List α) (enc : α → PyData) (f : α → β) (e2 : β → PyData) (p : α → Bool) (hc : X.calm = true) (hN : X.N.Nodup) (hi : GIP X tg iter ss hs items) (e : items = l.map enc) (hz : l.length ≤ sizeLine)
    (hb : ∀ x ∈ l, BC X scope fun Y => GG Y tg (.d (enc x)) (wipeS ss (own.map (·.2))) hs (own.map (·.2)) fun ss2 hs2 => hs2 = hs ∧ BC X scope fun Y => GTP Y c ss2 hs (p x) ∧ (p x = true → GP Y elt ss2 hs (e2 (f x))))
    (ok : blkC X.N X.env.scope scope own = true := by first | rfl | decide +kernel) (hfs : ∀ x, foldedSetIterable iter X.env x = pure x := by intro _; rfl) (hl : ss.length ≤ X.N.length := by exact Nat.le_of_ble_eq_true rfl) : GP X (.ListComp elt [⟨tg, iter, [c], 0⟩] scope pos) ss hs (.list (((l.filter p).map f).map e2)) := (lp_lcIfM own l enc f e2 p hc hN hi e hz hb ok hfs hl).val
theorem lp_lc2M {α β γ : Type} {ifs1 : List Expr} {scope : Scope} (own own1 : List (Str × Nat)) (l : List α) (l2 : α → List β) (enc1 : α → PyData) (enc2 : β → PyData) (p : α → β → Bool) (f : α → β → γ) (e2 : γ → PyData) (hc : X.calm = true) (hN : X.N.Nodup)
    (hi : GIP X tg iter ss hs (l.map enc1)) (hz : (l.flatMap fun x => ((l2 x).filter (p x)).map (f x)).length ≤ sizeLine)
    (hb : ∀ x ∈ l, BC X scope fun Y => GG Y tg (.d (enc1 x)) (wipeS ss (own.map (·.2))) hs (own.map (·.2)) fun ss2 hs2 => hs2 = hs ∧ (BC X scope fun Y => GIP Y tg1 iter1 ss2 hs ((l2 x).map enc2)) ∧
      ∀ y ∈ l2 x, BC X scope fun Y => GG Y tg1 (.d (enc2 y)) (wipeS ss2 (own1.map (·.2))) hs (own1.map (·.2)) fun ss3 hs3 => hs3 = hs ∧ PIfs X scope ifs1 ss3 hs (p x y) ∧ (p x y = true → BC X scope fun Y => GP Y elt ss3 hs (e2 (f x y))))
    (hif : ifs1.length ≤ 1 := by decide) (ok : blkC X.N X.env.scope scope own = true := by first | rfl | decide +kernel) (hv : ∀ i ∈ own1.map (·.2), i ∈ own.map (·.2) := by decide) (hfs : ∀ x, foldedSetIterable iter X.env x = pure x := by intro _; rfl) (hfs1 : ∀ env x, foldedSetIterable iter1 env x = pure x := by intro _ _; rfl) (hl : ss.length ≤ X.N.length := by exact Nat.le_of_ble_eq_true rfl) : GLc X (.ListComp elt [⟨tg, iter, [], 0⟩, ⟨tg1, iter1, ifs1, 0⟩] scope pos) ss hs fun ev h => ev = .d (.list ((l.flatMap fun x => ((l2 x).filter (p x)).map (f x)).map e2)) ∧ h = hs := by
  have z := lp_lc2 (pos := pos) own own1 l l2 enc1 enc2 p (fun x y => e2 (f x y)) hc hN hi (by simpa [List.length_flatMap] using hz) hb hif ok hv hfs hfs1 hl
  rw [List.map_flatMap]
  simp only [List.map_map]
  exact z
theorem gp_lc2M {α β γ : Type} {ifs1 : List Expr} {scope : Scope} (own own1 : List (Str × Nat)) (l : List α) (l2 : α → List β) (enc1 : α → PyData) (enc2 : β → PyData) (p : α → β → Bool) (f : α → β → γ) (e2 : γ → PyData) (hc : X.calm = true) (hN : X.N.Nodup)
    (hi : GIP X tg iter ss hs (l.map enc1)) (hz : (l.flatMap fun x => ((l2 x).filter (p x)).map (f x)).length ≤ sizeLine)
    (hb : ∀ x ∈ l, BC X scope fun Y => GG Y tg (.d (enc1 x)) (wipeS ss (own.map (·.2))) hs (own.map (·.2)) fun ss2 hs2 => hs2 = hs ∧ (BC X scope fun Y => GIP Y tg1 iter1 ss2 hs ((l2 x).map enc2)) ∧
      ∀ y ∈ l2 x, BC X scope fun Y => GG Y tg1 (.d (enc2 y)) (wipeS ss2 (own1.map (·.2))) hs (own1.map (·.2)) fun ss3 hs3 => hs3 = hs ∧ PIfs X scope ifs1 ss3 hs (p x y) ∧ (p x y = true → BC X scope fun Y => GP Y elt ss3 hs (e2 (f x y))))
    (hif : ifs1.length ≤ 1 := by decide) (ok : blkC X.N X.env.scope scope own = true := by first | rfl | decide +kernel) (hv : ∀ i ∈ own1.map (·.2), i ∈ own.map (·.2) := by decide) (hfs : ∀ x, foldedSetIterable iter X.env x = pure x := by intro _; rfl) (hfs1 : ∀ env x, foldedSetIterable iter1 env x = pure x := by intro _ _; rfl) (hl : ss.length ≤ X.N.length := by exact Nat.le_of_ble_eq_true rfl) : GP X (.ListComp elt [⟨tg, iter, [], 0⟩, ⟨tg1, iter1, ifs1, 0⟩] scope pos) ss hs (.list ((l.flatMap fun x => ((l2 x).filter (p x)).map (f x)).map e2)) := (lp_lc2M own own1 l l2 enc1 enc2 p f e2 hc hN hi hz hb hif ok hv hfs hfs1 hl).val
end
section
variable {X : Cx} {A0 : Around} {α : Type} [PyE α] [PyQ α] {k : Nat}
theorem q_eq {b : Bool} (hr : Room k A0) (x y : α) (hA : X.A = A0 := by rfl) (h : PyE.dp α ≤ 64 := by decide) (hb : b = true ↔ x = y := by exact decide_eq_true_iff) : CmpD X .Eq (enc x) (enc y) (.bool b) := by
  have e : b = decide (x = y) := by rw [Bool.eq_iff_iff, decide_eq_true_iff]; exact hb
  rw [e]
  exact c_eq (k := k) (hA ▸ hr) x y h
theorem q_ne {b : Bool} (hr : Room k A0) (x y : α) (hA : X.A = A0 := by rfl) (h : PyE.dp α ≤ 64 := by decide) (hb : b = true ↔ x = y := by exact decide_eq_true_iff) : CmpD X .NotEq (enc x) (enc y) (.bool (!b)) := by
  have e : b = decide (x = y) := by rw [Bool.eq_iff_iff, decide_eq_true_iff]; exact hb
  rw [e]
  exact c_ne (k := k) (hA ▸ hr) x y h
theorem q_inT {b : Bool} (hr : Room k A0) (x : α) (l : List α) (hA : X.A = A0 := by rfl) (h : PyE.dp α ≤ 64 := by decide) (hb : b = true ↔ x ∈ l := by exact decide_eq_true_iff) : CmpD X .In (enc x) (.tuple (l.map enc)) (.bool b) := by
  have e : b = decide (x ∈ l) := by rw [Bool.eq_iff_iff, decide_eq_true_iff]; exact hb
  rw [e]
  exact c_inT (k := k) (hA ▸ hr) x l h
theorem q_inL {b : Bool} (hr : Room k A0) (x : α) (l : List α) (hA : X.A = A0 := by rfl) (h : PyE.dp α ≤ 64 := by decide) (hb : b = true ↔ x ∈ l := by exact decide_eq_true_iff) : CmpD X .In (enc x) (.list (l.map enc)) (.bool b) := by
  have e : b = decide (x ∈ l) := by rw [Bool.eq_iff_iff, decide_eq_true_iff]; exact hb
  rw [e]
  exact c_inL (k := k) (hA ▸ hr) x l h
theorem q_notInT {b : Bool} (hr : Room k A0) (x : α) (l : List α) (hA : X.A = A0 := by rfl) (h : PyE.dp α ≤ 64 := by decide) (hb : b = true ↔ x ∈ l := by exact decide_eq_true_iff) : CmpD X .NotIn (enc x) (.tuple (l.map enc)) (.bool (!b)) := by
  have e : b = decide (x ∈ l) := by rw [Bool.eq_iff_iff, decide_eq_true_iff]; exact hb
  rw [e]
  exact c_notInT (k := k) (hA ▸ hr) x l h
theorem q_notInL {b : Bool} (hr : Room k A0) (x : α) (l : List α) (hA : X.A = A0 := by rfl) (h : PyE.dp α ≤ 64 := by decide) (hb : b = true ↔ x ∈ l := by exact decide_eq_true_iff) : CmpD X .NotIn (enc x) (.list (l.map enc)) (.bool (!b)) := by
  have e : b = decide (x ∈ l) := by rw [Bool.eq_iff_iff, decide_eq_true_iff]; exact hb
  rw [e]
  exact c_notInL (k := k) (hA ▸ hr) x l h
end
section
variable {X : Cx} {e e2 i a b : Expr} {ss : Sl} {hs : Hs} {pos p p2 : Pos} {α : Type} {f : α → PyData} {l : List α}
theorem gp_lenTm (hm : X.mg "len" = none) (h : GP X e ss hs (.tuple (l.map f))) (hg : Gl X "len" := by rfl) (he : starEach [e] X.env = (false, eval e X.env) :: starEach [] X.env := by rfl) (hpl : (backTo pos (starEach [] X.env)).any (·.1) = false := by rfl) : GP X (.Call (.Name "len" p) [e] [] pos) ss hs (.int l.length) :=
  (gp_lenT hm h hg he hpl).is (by rw [List.length_map])
theorem gp_lenLm (hm : X.mg "len" = none) (h : GP X e ss hs (.list (l.map f))) (hg : Gl X "len" := by rfl) (he : starEach [e] X.env = (false, eval e X.env) :: starEach [] X.env := by rfl) (hpl : (backTo pos (starEach [] X.env)).any (·.1) = false := by rfl) : GP X (.Call (.Name "len" p) [e] [] pos) ss hs (.int l.length) :=
  (gp_lenL hm h hg he hpl).is (by rw [List.length_map])
theorem at_map [Inhabited α] {n : Int} (h0 : 0 ≤ n) (h1 : n < l.length) : atI (l.map f) n = some (f (l.getD n.toNat default)) :=
  at_get h0 (by
    have hn : n.toNat < l.length := by omega
    rw [List.getElem?_map, List.getElem?_eq_getElem hn, List.getD_eq_getElem?_getD, List.getElem?_eq_getElem hn]
    rfl)
theorem gp_atT [Inhabited α] {n : Int} (h : GP X e ss hs (.tuple (l.map f))) (hi : GP X i ss hs (.int n)) (h0 : 0 ≤ n) (h1 : n < l.length) (hs' : PlainIx i := by exact fun _ _ => rfl) : GP X (.Subscript e i pos) ss hs (f (l.getD n.toNat default)) :=
  gp_ix h hi (s_tup (at_map h0 h1)) hs'
theorem gp_atL [Inhabited α] {n : Int} (h : GP X e ss hs (.list (l.map f))) (hi : GP X i ss hs (.int n)) (h0 : 0 ≤ n) (h1 : n < l.length) (hs' : PlainIx i := by exact fun _ _ => rfl) : GP X (.Subscript e i pos) ss hs (f (l.getD n.toNat default)) :=
  gp_ix h hi (s_lst (at_map h0 h1)) hs'
theorem gp_fromP {n : Int} {ds ds' : List PyData} (h : GP X e ss hs (.tuple ds)) (hi : GP X i ss hs (.int n)) (q : cutD ds (some n) none = ds') : GP X (.Subscript e (.Slice (some i) none none p2) pos) ss hs (.tuple ds') :=
  (gp_slice true h (.some hi) .none).is (by rw [q]; rfl)
theorem gp_catT (xs ys : List α) (ha : GP X a ss hs (.tuple (xs.map f))) (hb : GP X b ss hs (.tuple (ys.map f))) (hz : xs.length + ys.length ≤ 1000000) : GP X (.BinOp a .Add b pos) ss hs (.tuple ((xs ++ ys).map f)) :=
  (gp_bin ha hb (b_catT (szl (by rw [List.length_map, List.length_map]; exact hz)))).is (by rw [List.map_append])
theorem gp_catL (xs ys : List α) (ha : GP X a ss hs (.list (xs.map f))) (hb : GP X b ss hs (.list (ys.map f))) (hz : xs.length + ys.length ≤ 1000000) : GP X (.BinOp a .Add b pos) ss hs (.list ((xs ++ ys).map f)) :=
  (gp_bin ha hb (b_catL (szl (by rw [List.length_map, List.length_map]; exact hz)))).is (by rw [List.map_append])
theorem flat_one {β : Type} (x : β) : ∀ n : Nat, (List.replicate n [x]).flatten = List.replicate n x
  | 0 => rfl
  | n + 1 => by rw [List.replicate_succ, List.flatten_cons, flat_one x n]; rfl
theorem gp_rep1 {k : Int} (x : α) (ha : GP X a ss hs (.tuple [f x])) (hb : GP X b ss hs (.int k)) (h1 : 1 ≤ k) (h2 : k ≤ 1000) : GP X (.BinOp a .Mult b pos) ss hs (.tuple ((List.replicate k.toNat x).map f)) :=
  (gp_bin ha hb (b_rep (by simp) h1 h2 (by show 1 ≤ 1000; decide))).is (by rw [flat_one, List.map_replicate])
end
/-! ### loops over a typed list -/
section
variable {X : Cx} {tg iter c : Expr} {ss : Sl} {hs : Hs} {pos : Pos}
theorem GS.up {st : Stmt} {D : Out} (h : GS X st ss hs { D with nx := UpTo D.nx }) : GS X st ss hs D := ⟨fun F G H σ hh sl hl => WS.mono (h.run F G H σ hh sl hl) (fun σ' H' ⟨G4, ss4, hs4, a1, a2, a3, a4, ss5, w, q⟩ => ⟨G4, ss5, hs4, a1, a2, a3.wk w, Nat.le_trans w.len a4, q⟩) (fun _ _ q => q) (fun _ _ q => q) (fun _ _ q => q)⟩
theorem gs_forT {α τ : Type} {body : List Stmt} {D : Out} {items : List PyData} (vs : List Nat) (l : List α) (enc : α → PyData) (S : τ → Sl) (Hh : τ → Hs) (J : Nat → τ → Prop) (t0 : τ) (hp : PassesOwn (model X.prog X.w) X.A X.env X.xe) (hc : X.calm = true)
    (hi : GIP X tg iter ss hs items) (e : items = l.map enc) (h0 : J 0 t0) (hss : Wk ss (S t0)) (hhs : hs = Hh t0)
    (step : ∀ i x t, l[i]? = some x → J i t → GG X tg (.d (enc x)) (S t) (Hh t) vs fun ss2 hs2 => GSs X body ss2 hs2 { D with nx := fun s h => ∃ t', J (i + 1) t' ∧ Wk s (S t') ∧ h = Hh t', ct := fun s h => ∃ t', J (i + 1) t' ∧ Wk s (S t') ∧ h = Hh t', bk := D.nx })
    (fin : ∀ t, J l.length t → D.nx (S t) (Hh t)) (hs' : ∀ x, foldedSetIterable iter X.env x = pure x := by intro _; rfl) (hl : ss.length ≤ X.N.length := by exact Nat.le_of_ble_eq_true rfl) : GS X (.For tg iter body [] pos) ss hs D := by
  subst e
  refine GS.up (gs_for (vs := vs) hp hc (⟨fun F G H σ hh sl pins s I => thn (hi.run F G H σ hh sl pins s I) fun v s1 q => thn q fun itv s2 q => by
    obtain ⟨it, fp, tn, J', H1, e1, I1, T, tt, f1, G1, items, hs1, g1, hh1, Y, rfl, rfl⟩ := q
    refine ⟨it, fp, tn, J', H1, e1, I1, T, tt, f1, G1, _, _, g1, hh1, Y, fun i s h => ∃ t, J i t ∧ Wk s (S t) ∧ h = Hh t, ⟨t0, h0, hss, hhs⟩, ?_, ?_⟩
    · rintro i d ss' hs' hd ⟨t, hj, wk, rfl⟩
      rw [List.getElem?_map] at hd
      obtain ⟨x, q1, rfl⟩ := Option.map_eq_some_iff.mp hd
      have st := step i x t q1 hj
      refine ⟨fun F G H σ v hh sl hl r pins s u I rv => thn (st.run F G H σ v hh (sl.wk wk) (Nat.le_trans wk.len hl) r pins s u I rv) fun z s3 ⟨σ3, H3, I3, ⟨G3, ss3, hs3, g3, hh3, sl3, hl3, b⟩, r3⟩ => ⟨σ3, H3, I3, ⟨G3, ss3, hs3, g3, hh3, sl3, hl3, ?_⟩, r3⟩⟩
      refine ⟨fun F G H σ hh sl hl => WSs.mono (b.run F G H σ hh sl hl) ?_ (fun _ _ q => q) ?_ ?_⟩
      · rintro σ' H' ⟨G4, ss4, hs4, a1, a2, a3, a4, t', a5, a6, a7⟩
        exact ⟨G4, ss4, hs4, a1, a2, a3, a4, ss4, Wk.refl _, t', a5, a6, a7⟩
      · rintro σ' H' ⟨G4, ss4, hs4, a1, a2, a3, a4, q⟩
        exact ⟨G4, ss4, hs4, a1, a2, a3, a4, ss4, Wk.refl _, q⟩
      · rintro σ' H' ⟨G4, ss4, hs4, a1, a2, a3, a4, t', a5, a6, a7⟩
        exact ⟨G4, ss4, hs4, a1, a2, a3, a4, ss4, Wk.refl _, t', a5, a6, a7⟩
    · rintro ss' hs' ⟨t, hj, wk, rfl⟩
      rw [List.length_map] at hj
      exact ⟨_, wk, fin t hj⟩⟩) hs')
theorem gs_forE {α τ : Type} {body : List Stmt} {D : Out} (vs : List Nat) (enc : α → PyData) (S : τ → Sl) (Hh : τ → Hs) (hp : PassesOwn (model X.prog X.w) X.A X.env X.xe) (hc : X.calm = true)
    (h : GI X tg iter ss hs fun items hs1 => ∃ (l : List α) (J : Nat → τ → Prop) (t0 : τ), items = l.map enc ∧ J 0 t0 ∧ Wk ss (S t0) ∧ hs1 = Hh t0 ∧
      (∀ i x t, l[i]? = some x → J i t → GG X tg (.d (enc x)) (S t) (Hh t) vs fun ss2 hs2 => GSs X body ss2 hs2 { D with nx := fun s h => ∃ t', J (i + 1) t' ∧ Wk s (S t') ∧ h = Hh t', ct := fun s h => ∃ t', J (i + 1) t' ∧ Wk s (S t') ∧ h = Hh t', bk := D.nx }) ∧
      ∀ t, J l.length t → D.nx (S t) (Hh t)) (hs' : ∀ x, foldedSetIterable iter X.env x = pure x := by intro _; rfl) : GS X (.For tg iter body [] pos) ss hs D := by
  refine GS.up (gs_for (vs := vs) hp hc (⟨fun F G H σ hh sl pins s I => thn (h.run F G H σ hh sl pins s I) fun v s1 q => thn q fun itv s2 q => by
    obtain ⟨it, fp, tn, J', H1, e1, I1, T, tt, f1, G1, items, hs1, g1, hh1, Y, l, J, t0, rfl, h0, hss, hhs, step, fin⟩ := q
    refine ⟨it, fp, tn, J', H1, e1, I1, T, tt, f1, G1, _, _, g1, hh1, Y, fun i s h => ∃ t, J i t ∧ Wk s (S t) ∧ h = Hh t, ⟨t0, h0, hss, hhs⟩, ?_, ?_⟩
    · rintro i d ss' hs' hd ⟨t, hj, wk, rfl⟩
      rw [List.getElem?_map] at hd
      obtain ⟨x, q1, rfl⟩ := Option.map_eq_some_iff.mp hd
      have st := step i x t q1 hj
      refine ⟨fun F G H σ v hh sl hl r pins s u I rv => thn (st.run F G H σ v hh (sl.wk wk) (Nat.le_trans wk.len hl) r pins s u I rv) fun z s3 ⟨σ3, H3, I3, ⟨G3, ss3, hs3, g3, hh3, sl3, hl3, b⟩, r3⟩ => ⟨σ3, H3, I3, ⟨G3, ss3, hs3, g3, hh3, sl3, hl3, ?_⟩, r3⟩⟩
      refine ⟨fun F G H σ hh sl hl => WSs.mono (b.run F G H σ hh sl hl) ?_ (fun _ _ q => q) ?_ ?_⟩
      · rintro σ' H' ⟨G4, ss4, hs4, a1, a2, a3, a4, t', a5, a6, a7⟩
        exact ⟨G4, ss4, hs4, a1, a2, a3, a4, ss4, Wk.refl _, t', a5, a6, a7⟩
      · rintro σ' H' ⟨G4, ss4, hs4, a1, a2, a3, a4, q⟩
        exact ⟨G4, ss4, hs4, a1, a2, a3, a4, ss4, Wk.refl _, q⟩
      · rintro σ' H' ⟨G4, ss4, hs4, a1, a2, a3, a4, t', a5, a6, a7⟩
        exact ⟨G4, ss4, hs4, a1, a2, a3, a4, ss4, Wk.refl _, t', a5, a6, a7⟩
    · rintro ss' hs' ⟨t, hj, wk, rfl⟩
      rw [List.length_map] at hj
      exact ⟨_, wk, fin t hj⟩⟩) hs')
theorem gs_whileT {τ : Type} {body : List Stmt} {D : Out} (S : τ → Sl) (Hh : τ → Hs) (J : Nat → τ → Prop) (m : Nat) (t0 : τ) (hp : PassesOwn (model X.prog X.w) X.A X.env X.xe) (h0 : J m t0) (hss : Wk ss (S t0)) (hhs : hs = Hh t0)
    (step : ∀ m t, J m t → GT X c (S t) (Hh t) fun b hs1 => (b = true → GSs X body (S t) hs1 { D with nx := fun s h => ∃ m' t', m' < m ∧ J m' t' ∧ Wk s (S t') ∧ h = Hh t', ct := fun s h => ∃ m' t', m' < m ∧ J m' t' ∧ Wk s (S t') ∧ h = Hh t', bk := D.nx }) ∧ (b = false → D.nx (S t) hs1)) : GS X (.While c body [] pos) ss hs D := by
  refine GS.up (gs_while hp (fun m s h => ∃ t, J m t ∧ Wk s (S t) ∧ h = Hh t) m ⟨t0, h0, hss, hhs⟩ ?_)
  rintro m ss' hs' ⟨t, hj, wk, rfl⟩
  have st := step m t hj
  refine ⟨fun F G H σ hh sl pins s I => thn (st.run F G H σ hh (sl.wk wk) pins s I) fun b s1 ⟨H1, I1, G1, hs1, g1, hh1, q1, q2⟩ => ⟨H1, I1, G1, hs1, g1, hh1, fun e => ?_, fun e => ⟨_, wk, q2 e⟩⟩⟩
  refine ⟨fun F G H σ hh sl hl => WSs.mono ((q1 e).run F G H σ hh (sl.wk wk) (Nat.le_trans wk.len hl)) ?_ (fun _ _ q => q) ?_ ?_⟩
  · rintro σ' H' ⟨G4, ss4, hs4, a1, a2, a3, a4, m', t', a8, a5, a6, a7⟩
    exact ⟨G4, ss4, hs4, a1, a2, a3, a4, ss4, Wk.refl _, m', a8, t', a5, a6, a7⟩
  · rintro σ' H' ⟨G4, ss4, hs4, a1, a2, a3, a4, q⟩
    exact ⟨G4, ss4, hs4, a1, a2, a3, a4, ss4, Wk.refl _, q⟩
  · rintro σ' H' ⟨G4, ss4, hs4, a1, a2, a3, a4, m', t', a8, a5, a6, a7⟩
    exact ⟨G4, ss4, hs4, a1, a2, a3, a4, ss4, Wk.refl _, m', a8, t', a5, a6, a7⟩
end
end Asl

/-! Asl: lists that change, typed; a list of lists that change. -/
namespace Asl
open PySem PySem.Spec L2 PySem.W
open PyProof.Rows hiding St
open PyE (enc)
/-- a list of typed data that may change -/
def ol {α : Type} (f : α → PyData) (l : List α) : OC := .lst (l.map fun x => .d (f x))
theorem ol_app {α : Type} (f : α → PyData) (l : List α) (x : α) : ol f (l ++ [x]) = .lst (l.map (fun x => EV.d (f x)) ++ [.d (f x)]) := by
  unfold ol
  rw [List.map_append]
  rfl
theorem ol_set {α : Type} (f : α → PyData) (l : List α) (j : Nat) (x : α) : ol f (l.set j x) = .lst ((l.map fun x => EV.d (f x)).set j (.d (f x))) := by
  unfold ol
  rw [List.map_set]
theorem ol_ds {α : Type} (f : α → PyData) (l : List α) : ol f l = .lst ((l.map f).map .d) := by
  unfold ol
  rw [List.map_map]
  rfl
theorem at_map' {α : Type} [Inhabited α] {f : α → PyData} {l : List α} {n : Int} (h0 : 0 ≤ n) (h1 : n < l.length) : atI (l.map fun x => EV.d (f x)) n = some (.d (f (l.getD n.toNat default))) := by
  obtain ⟨j, rfl⟩ := Int.eq_ofNat_of_zero_le h0
  have hn : j < l.length := by omega
  refine atI_nat ?_
  rw [List.getElem?_map, List.getElem?_eq_getElem hn, Int.toNat_natCast, List.getD_eq_getElem?_getD, List.getElem?_eq_getElem hn]
  rfl
theorem ixN_in {n : Nat} {k : Int} (h0 : 0 ≤ k) (h1 : k < n) : ixN n k = some k.toNat := by
  obtain ⟨j, rfl⟩ := Int.eq_ofNat_of_zero_le h0
  unfold ixN
  simp
  omega
section
variable {X : Cx} {e ie : Expr} {ss : Sl} {hs hs' : Hs} {pos pos2 pos3 apos p1 p2 : Pos} {α : Type} {f : α → PyData} {l : List α} {x : Str} {p : Addr}
theorem GSs.perm {st : List Stmt} {D : Out} (h : GSs X st ss hs' D) (q : hs.Perm hs') : GSs X st ss hs D := ⟨fun F G H σ hh sl hl => h.run F G H σ (hh.perm q) sl hl⟩
theorem GS.perm {st : Stmt} {D : Out} (h : GS X st ss hs' D) (q : hs.Perm hs') : GS X st ss hs D := ⟨fun F G H σ hh sl hl => h.run F G H σ (hh.perm q) sl hl⟩
/-- x[i], x a list that changes -/
theorem gp_atO [Inhabited α] {n : Int} (i : Nat) (hx : ss[i]? = some (some (.r p))) (m : (p, ol f l) ∈ hs) (hi : GP X ie ss hs (.int n)) (h0 : 0 ≤ n) (h1 : n < l.length) (hN : X.N[i]? = some x := by rfl) (hv : Vis X.env.scope x := by first | exact Or.inl rfl | exact Or.inr (Or.inl rfl) | exact Or.inr (Or.inr rfl))
    (hd : (x == ("__debug__" : Str)) = false := by decide) (hcd : (x == ("__classdict__" : Str)) = false := by decide) (hs' : PlainIx ie := by exact fun _ _ => rfl) :
    GP X (.Subscript (.Name x p1) ie pos) ss hs (f (l.getD n.toNat default)) :=
  ge_ixO (ge_var i hx ⟨p, rfl, hi.of ⟨n, _, _, rfl, m, at_map' h0 h1, rfl, rfl⟩⟩ hN hv hd hcd) hs'
theorem gp_lenO (i : Nat) (hm : X.mg "len" = none) (hx : ss[i]? = some (some (.r p))) (m : (p, ol f l) ∈ hs) (hN : X.N[i]? = some x := by rfl) (hv : Vis X.env.scope x := by first | exact Or.inl rfl | exact Or.inr (Or.inl rfl) | exact Or.inr (Or.inr rfl))
    (hd : (x == ("__debug__" : Str)) = false := by decide) (hcd : (x == ("__classdict__" : Str)) = false := by decide) (hg : Gl X "len" := by rfl) (he : starEach [.Name x p1] X.env = (false, eval (.Name x p1) X.env) :: starEach [] X.env := by rfl) (hpl : (backTo pos (starEach [] X.env)).any (·.1) = false := by rfl) :
    GP X (.Call (.Name "len" p2) [.Name x p1] [] pos) ss hs (.int l.length) :=
  ge_lenO (x := x) hm (ge_var i hx ⟨p, _, rfl, m, by rw [List.length_map], rfl⟩ hN hv hd hcd) hg he hpl
/-- x.append(e) -/
theorem gs_appO {y : α} {D : Out} (i : Nat) (hx : ss[i]? = some (some (.r p))) (he : GP X e ss hs (f y)) (pt : Put hs p (ol f l) (ol f (l ++ [y])) hs') (hz : l.length < 1000000) (k : D.nx ss hs') (hN : X.N[i]? = some x := by rfl) (hv : Vis X.env.scope x := by first | exact Or.inl rfl | exact Or.inr (Or.inl rfl) | exact Or.inr (Or.inr rfl))
    (hd : (x == ("__debug__" : Str)) = false := by decide) (hcd : (x == ("__classdict__" : Str)) = false := by decide) (hbase : attributeBase (.Name x p1) "append" X.env (eval (.Name x p1) X.env) = eval (.Name x p1) X.env := by rfl)
    (hfew : ((backTo pos (starEach [e] X.env)).all (fun x => !x.1) && (backToKw pos (keywordEach [] X.env)).all (fun x => x.1.isSome) && decide ([e].length + ([] : List Keyword).length + (if ([] : List Keyword).isEmpty then 0 else 1) < 30)) = true := by rfl)
    (hline : (apos.endLine == pos.line) = true := by rfl) (hst : starEach [e] X.env = (false, eval e X.env) :: starEach [] X.env := by rfl) (hplain : (backTo pos (starEach [] X.env)).any (·.1) = false := by rfl) (hsw : swapsWith (.Call (.Attribute (.Name x p1) "append" apos) [e] [] pos) none pos2.line X.env = pure false := by rfl) :
    GS X (.Expr (.Call (.Attribute (.Name x p1) "append" apos) [e] [] pos) pos2) ss hs D :=
  gs_expr (ge_append (ge_var i hx ⟨p, _, rfl, pt.mem, he.of ⟨_, _, ol_app f l y ▸ pt, by rw [List.length_map]; exact Nat.lt_of_lt_of_le hz (by decide), k⟩⟩ hN hv hd hcd) hbase hfew hline hst hplain) hsw
/-- x.extend(e), e a list of data -/
theorem ge_extend {o : Expr} {Φ : EV → Hs → Prop} (h : GE X o ss hs fun ev hs1 => ∃ a es0, ev = .r a ∧ (a, .lst es0) ∈ hs1 ∧ GE X e ss hs1 fun ev2 hs2 => ∃ es ds hs3, ev2 = .d (.list ds) ∧ Put hs2 a (.lst es) (.lst (es ++ ds.map .d)) hs3 ∧ es.length + ds.length ≤ sizeLine ∧ Φ (.d .none) hs3)
    (hbase : attributeBase o "extend" X.env (eval o X.env) = eval o X.env := by rfl)
    (hfew : ((backTo pos (starEach [e] X.env)).all (fun x => !x.1) && (backToKw pos (keywordEach [] X.env)).all (fun x => x.1.isSome) && decide ([e].length + ([] : List Keyword).length + (if ([] : List Keyword).isEmpty then 0 else 1) < 30)) = true := by rfl)
    (hline : (apos.endLine == pos.line) = true := by rfl) (hst : starEach [e] X.env = (false, eval e X.env) :: starEach [] X.env := by rfl) (hplain : (backTo pos (starEach [] X.env)).any (·.1) = false := by rfl) :
    GE X (.Call (.Attribute o "extend" apos) [e] [] pos) ss hs Φ := ⟨fun F G H σ hh sl =>
  we_of (pe_bm PySem.F.plainAttrs_list PySem.F.slot_list_extend PySem.F.type_list_extend mt_extend pe_we (pa_cons pe_we pa_nil hst) hbase hfew hline hst hplain) ((h.run F G H σ hh sl).mono fun v H1 ⟨G1, ev, hs1, g1, hh1, r1, a, es0, e1, m0, q⟩ => by
    subst e1
    have r1 : v = .ref a := r1
    subst r1
    obtain ⟨xs0, q0, _⟩ := own_lst hh1 m0
    refine ⟨.inl ⟨rfl, xs0, SqL.of q0⟩, (q.run F G1 H1 σ hh1 (sl.mono g1.up)).mono fun w H2 ⟨G2, ev2, hs2, g2, hh2, r2, es, ds, hs3, e2, pt, lz, k⟩ => ?_⟩
    subst e2
    obtain ⟨xs, q1, r⟩ := own_lst hh2 pt.mem
    have r2 : Dt X.K G2 w (.list ds) := r2
    cases r2 with
    | @lst b zs _ hb kk =>
      refine ⟨a, b, xs, zs, rfl, rfl, q1, hh2.g _ _ hb, by rw [Paired.length r, Paired.length (d_paired kk), List.length_map]; exact lz, G2, .d .none, hs3, g1.trans g2, ?_, Dt.non, k⟩
      exact hh2.puts pt ⟨_, rfl, paired_app r (d_paired kk)⟩)⟩
theorem ol_ext {α : Type} (f : α → PyData) (l m : List α) : ol f (l ++ m) = .lst (l.map (fun x => EV.d (f x)) ++ (m.map f).map .d) := by
  unfold ol
  rw [List.map_append, List.map_map]
  rfl
theorem gs_extO {m : List α} {D : Out} (i : Nat) (hx : ss[i]? = some (some (.r p))) (he : GP X e ss hs (.list (m.map f))) (pt : Put hs p (ol f l) (ol f (l ++ m)) hs') (hz : l.length + m.length ≤ 1000000) (k : D.nx ss hs') (hN : X.N[i]? = some x := by rfl) (hv : Vis X.env.scope x := by first | exact Or.inl rfl | exact Or.inr (Or.inl rfl) | exact Or.inr (Or.inr rfl))
    (hd : (x == ("__debug__" : Str)) = false := by decide) (hcd : (x == ("__classdict__" : Str)) = false := by decide) (hbase : attributeBase (.Name x p1) "extend" X.env (eval (.Name x p1) X.env) = eval (.Name x p1) X.env := by rfl)
    (hfew : ((backTo pos (starEach [e] X.env)).all (fun x => !x.1) && (backToKw pos (keywordEach [] X.env)).all (fun x => x.1.isSome) && decide ([e].length + ([] : List Keyword).length + (if ([] : List Keyword).isEmpty then 0 else 1) < 30)) = true := by rfl)
    (hline : (apos.endLine == pos.line) = true := by rfl) (hst : starEach [e] X.env = (false, eval e X.env) :: starEach [] X.env := by rfl) (hplain : (backTo pos (starEach [] X.env)).any (·.1) = false := by rfl) (hsw : swapsWith (.Call (.Attribute (.Name x p1) "extend" apos) [e] [] pos) none pos2.line X.env = pure false := by rfl) :
    GS X (.Expr (.Call (.Attribute (.Name x p1) "extend" apos) [e] [] pos) pos2) ss hs D :=
  gs_expr (ge_extend (ge_var i hx ⟨p, _, rfl, pt.mem, he.of ⟨_, _, _, rfl, ol_ext f l m ▸ pt, by rw [List.length_map, List.length_map]; exact Nat.le_trans hz (by decide), k⟩⟩ hN hv hd hcd) hbase hfew hline hst hplain) hsw
/-- x[i] = e -/
theorem gs_putO {y : α} {n : Int} {D : Out} (i : Nat) (hx : ss[i]? = some (some (.r p))) (he : GP X e ss hs (f y)) (hi : GP X ie ss hs (.int n)) (h0 : 0 ≤ n) (h1 : n < l.length) (pt : Put hs p (ol f l) (ol f (l.set n.toNat y)) hs') (k : D.nx ss hs') (hN : X.N[i]? = some x := by rfl) (hv : Vis X.env.scope x := by first | exact Or.inl rfl | exact Or.inr (Or.inl rfl) | exact Or.inr (Or.inr rfl))
    (hd : (x == ("__debug__" : Str)) = false := by decide) (hcd : (x == ("__classdict__" : Str)) = false := by decide)
    (ha : ∀ v, assign (.Subscript (.Name x p1) ie pos3) X.env v = (do
      let ov ← holding [v] (eval (.Name x p1) X.env)
      let iv ← holding [v, ov] (eval ie X.env)
      standAt pos3
      holding [v, ov, iv] (setItem ov iv v)
      release [v, ov, iv] []) := by intro _; rfl)
    (hsw : swapsWithSole [.Subscript (.Name x p1) ie pos3] e pos.line X.env = pure false := by rfl) (hw : swappedStores [.Subscript (.Name x p1) ie pos3] e X.env = pure none := by rfl)
    (h1' : (assignEach [.Subscript (.Name x p1) ie pos3] X.env).map (·.2) = [assign (.Subscript (.Name x p1) ie pos3) X.env] := by rfl) :
    GS X (.Assign [.Subscript (.Name x p1) ie pos3] e pos) ss hs D :=
  gs_setO (he.of (ge_var i hx ⟨p, rfl, hi.of ⟨n, n.toNat, _, _, rfl, ixN_in h0 (by rw [List.length_map]; exact h1), ol_set f l n.toNat y ▸ pt, k⟩⟩ hN hv hd hcd)) ha hsw hw h1'
end

/-! ### plain data, its size -/
mutual
def pz : PyData → Nat
  | .tuple l => 1 + pzs l
  | _ => 1
def pzs : List PyData → Nat
  | [] => 0
  | x :: xs => pz x + pzs xs
end
mutual
def pla : PyData → Bool
  | .tuple l => plas l
  | .int _ => true
  | .str _ => true
  | .bool _ => true
  | .none => true
  | _ => false
def plas : List PyData → Bool
  | [] => true
  | x :: xs => pla x && plas xs
end
theorem pz_pos (d : PyData) : 1 ≤ pz d := by
  cases d <;> simp [pz]
theorem pzs_app : ∀ l m : List PyData, pzs (l ++ m) = pzs l + pzs m
  | [], m => by simp [pzs]
  | x :: l, m => by simp [pzs, pzs_app l m, Nat.add_assoc]
theorem plas_app : ∀ l m : List PyData, plas (l ++ m) = (plas l && plas m)
  | [], m => by simp [plas]
  | x :: l, m => by simp [plas, plas_app l m, Bool.and_assoc]
theorem pzs_len : ∀ l : List PyData, l.length ≤ pzs l
  | [] => Nat.zero_le _
  | x :: l => by
    have := pzs_len l
    have := pz_pos x
    simp only [List.length_cons, pzs]
    omega
/-! ### a list of lists that change, as data -/
section
variable {K : PySem.W.Frag} {F G H : Hp} {hs : Hs}
theorem HH.reOC {q : Addr} {oc oc' : OC} (h : HH K F G H ((q, oc) :: hs)) (k : ∀ o, OcR K G o oc → OcR K G o oc') : HH K F G H ((q, oc') :: hs) :=
  ⟨h.f, h.g, fun a oc1 m => by
    rcases List.mem_cons.mp m with e | m
    · cases e
      obtain ⟨q1, q2, o, q3, q4⟩ := h.own q oc List.mem_cons_self
      exact ⟨q1, q2, o, q3, k o q4⟩
    · exact h.own a oc1 (List.mem_cons_of_mem _ m), h.nd⟩
theorem paired_re {a : Addr} {d : PyData} (r : Dt K G (.ref a) d) : ∀ {done : List EV} {xs : List V} {es : List EV}, Paired (Rv K G) xs (done ++ .r a :: es) → Paired (Rv K G) xs (done ++ .d d :: es)
  | [], _, _, h => by
    cases h with
    | cons h1 h2 =>
      have h1 : _ = V.ref a := h1
      subst h1
      exact .cons r h2
  | _ :: done, _, _, h => by
    cases h with
    | cons h1 h2 => exact .cons h1 (paired_re r h2)
theorem HH.freezeRows {α : Type} {f : α → PyData} {q : Addr} {rest : Hs} : ∀ (rs : List (Addr × List α)) (done : List EV) (G : Hp), HH K F G H ((q, .lst (done ++ rs.map fun r => EV.r r.1)) :: (rs.map fun r => (r.1, ol f r.2)) ++ rest) →
    ∃ G', Grow F G G' ∧ HH K F G' H ((q, .lst (done ++ rs.map fun r => EV.d (.list (r.2.map f)))) :: rest)
  | [], done, G, h => ⟨G, Grow.refl _ _, h⟩
  | r :: rs, done, G, h => by
    have h1 : HH K F G H ((r.1, .lst ((r.2.map f).map .d)) :: ((q, .lst (done ++ .r r.1 :: rs.map fun r => EV.r r.1)) :: (rs.map fun r => (r.1, ol f r.2)) ++ rest)) := by
      rw [← ol_ds]
      exact h.perm (List.Perm.swap _ _ _)
    obtain ⟨G1, g1, h2, d⟩ := h1.freeze
    have h3 := h2.reOC (oc' := .lst ((done ++ [.d (.list (r.2.map f))]) ++ rs.map fun r => EV.r r.1)) fun o ⟨xs, e1, e2⟩ => ⟨xs, e1, by
      rw [List.append_assoc]
      exact paired_re d e2⟩
    obtain ⟨G2, g2, h4⟩ := HH.freezeRows rs _ G1 h3
    refine ⟨G2, g1.trans g2, ?_⟩
    rw [List.append_assoc] at h4
    exact h4
theorem GSs.freezeRows {X : Cx} {ss : Sl} {st : List Stmt} {D : Out} {α : Type} {f : α → PyData} {q : Addr} {rest : Hs} (rs : List (Addr × List α)) (h : GSs X st ss ((q, ol (fun l => .list (l.map f)) (rs.map (·.2))) :: rest) D) (pm : hs.Perm ((q, .lst (rs.map fun r => EV.r r.1)) :: (rs.map fun r => (r.1, ol f r.2)) ++ rest)) : GSs X st ss hs D := ⟨fun F G H σ hh sl hl => by
  obtain ⟨G1, g1, h1⟩ := HH.freezeRows (done := []) rs G (hh.perm pm)
  refine WSs.up g1 (h.run F G1 H σ ?_ (sl.mono g1.up) hl)
  rw [ol, List.map_map]
  exact h1⟩
end
/-! ### statements that meet again -/
section
variable {X : Cx} {ss : Sl} {hs : Hs}
theorem gss_mid {τ : Type} {st : Stmt} {rest : List Stmt} {D : Out} (S : τ → Sl) (Hh : τ → Hs) (J : τ → Prop) (h : GS X st ss hs { D with nx := fun s h => ∃ t, J t ∧ Wk s (S t) ∧ h = Hh t }) (k : ∀ t, J t → GSs X rest (S t) (Hh t) D) : GSs X (st :: rest) ss hs D :=
  gss_cons ⟨fun F G H σ hh sl hl => WS.mono (h.run F G H σ hh sl hl) (fun σ' H' ⟨G', ss', hs', g, hh', sl', hl', t, q1, q2, q3⟩ => by
    subst q3
    exact ⟨G', S t, Hh t, g, hh', sl'.wk q2, Nat.le_trans q2.len hl', k t q1⟩) (fun _ _ q => q) (fun _ _ q => q) (fun _ _ q => q)⟩
theorem put_rows {α : Type} {f : α → PyData} {a : Addr} {l : List α} (l' : List α) : ∀ {rs : List (Addr × List α)} {k : Nat}, rs[k]? = some (a, l) → Put (rs.map fun r => (r.1, ol f r.2)) a (ol f l) (ol f l') ((rs.set k (a, l')).map fun r => (r.1, ol f r.2))
  | [], _, h => by simp at h
  | r :: rs, 0, h => by
    have h : r = (a, l) := by simpa using h
    subst h
    exact .here
  | r :: rs, k + 1, h => .there (put_rows l' (k := k) (by simpa using h))
theorem set_fst {α : Type} {a : Addr} {l : List α} (l' : List α) {rs : List (Addr × List α)} {k : Nat} (h : rs[k]? = some (a, l)) : ((rs.set k (a, l')).map fun r => EV.r r.1) = rs.map fun r => EV.r r.1 := by
  rw [List.map_set]
  refine List.ext_getElem? fun i => ?_
  rw [List.getElem?_set]
  split
  · next e =>
    subst e
    have := (List.getElem?_eq_some_iff.mp h).1
    rw [List.length_map, if_pos this, List.getElem?_map, h]
    rfl
  · rfl
end
end Asl

/-! Which counts have a table of 0 and 1: in plain Lean. -/
namespace GR
open PySem PySem.W
theorem sum_perm {l m : List Int} (h : l.Perm m) : l.sum = m.sum := by
  induction h with
  | nil => rfl
  | cons x _ ih => rw [List.sum_cons, List.sum_cons, ih]
  | swap x y l => simp only [List.sum_cons]; omega
  | trans _ _ a b => exact a.trans b
def msum (k : Int) (us : List Int) : Int := (us.map fun u => min u k).sum
theorem msum_cons (k u : Int) (us : List Int) : msum k (u :: us) = min u k + msum k us := by simp [msum]
theorem msum_perm {l m : List Int} (k : Int) (h : l.Perm m) : msum k l = msum k m := sum_perm (h.map _)
/-- no rows ask for more than the columns hold -/
def Good (os us : List Int) : Prop := ∀ A : List Int, A.Sublist os → A.sum ≤ msum A.length us
abbrev dsc (l : List Int) : List Int := l.mergeSort (dataLe true PyData.int)
abbrev asc (l : List Int) : List Int := l.mergeSort (dataLe false PyData.int)
abbrev Dn (l : List Int) : Prop := l.Pairwise fun a b => b ≤ a
theorem dsc_perm (l : List Int) : (dsc l).Perm l := List.mergeSort_perm _ _
theorem asc_perm (l : List Int) : (asc l).Perm l := List.mergeSort_perm _ _
theorem ge_eq : dataLe true PyData.int = fun a b : Int => decide (b ≤ a) := dataGe_int id
theorem le_eq : dataLe false PyData.int = fun a b : Int => decide (a ≤ b) := dataLe_int id
theorem dsc_dn (l : List Int) : Dn (dsc l) := by
  unfold dsc
  rw [ge_eq]
  refine (List.pairwise_mergeSort (le := fun a b : Int => decide (b ≤ a)) (fun a b c h1 h2 => ?_) (fun a b => ?_) l).imp fun {a b} h => ?_
  · simp only [decide_eq_true_eq] at h1 h2 ⊢; omega
  · simp only [Bool.or_eq_true, decide_eq_true_eq]; omega
  · simpa using h
theorem asc_up (l : List Int) : (asc l).Pairwise fun a b => a ≤ b := by
  unfold asc
  rw [le_eq]
  refine (List.pairwise_mergeSort (le := fun a b : Int => decide (a ≤ b)) (fun a b c h1 h2 => ?_) (fun a b => ?_) l).imp fun {a b} h => ?_
  · simp only [decide_eq_true_eq] at h1 h2 ⊢; omega
  · simp only [Bool.or_eq_true, decide_eq_true_eq]; omega
  · simpa using h
theorem dn_uniq : ∀ {l m : List Int}, l.Perm m → Dn l → Dn m → l = m
  | [], m, h, _, _ => (List.nil_perm.mp h).symm
  | a :: l, [], h, _, _ => absurd h.symm (by simp)
  | a :: l, b :: m, h, h1, h2 => by
    rw [Dn, List.pairwise_cons] at h1 h2
    have e : a = b := by
      have ha : a ∈ b :: m := h.mem_iff.mp List.mem_cons_self
      have hb : b ∈ a :: l := h.mem_iff.mpr List.mem_cons_self
      rcases List.mem_cons.mp ha with e | ha
      · exact e
      · rcases List.mem_cons.mp hb with e | hb
        · exact e.symm
        · have := h2.1 a ha
          have := h1.1 b hb
          omega
    subst e
    rw [dn_uniq (List.Perm.cons_inv h) h1.2 h2.2]
theorem asc_rev (l : List Int) : asc l = (dsc l).reverse := by
  have h : (asc l).reverse = dsc l := dn_uniq ((List.reverse_perm _).trans ((asc_perm l).trans (dsc_perm l).symm)) (by rw [Dn, List.pairwise_reverse]; exact asc_up l) (dsc_dn l)
  rw [← h, List.reverse_reverse]
theorem asc_top (l : List Int) (m : Nat) (h : m ≤ l.length) : ((asc l).drop (l.length - m)).sum = ((dsc l).take m).sum := by
  have hl : (dsc l).length = l.length := List.length_mergeSort l
  rw [asc_rev, List.drop_reverse, List.sum_reverse, hl, show l.length - (l.length - m) = m by omega]
theorem asc_low (l : List Int) (m : Nat) (h : m ≤ l.length) : ((asc l).take (l.length - m)).sum = ((dsc l).drop m).sum := by
  have hl : (dsc l).length = l.length := List.length_mergeSort l
  rw [asc_rev, List.take_reverse, List.sum_reverse, hl, show l.length - (l.length - m) = m by omega]
theorem take_le_cons : ∀ (s : List Int) (a : Int) (k : Nat), Dn (a :: s) → k ≤ s.length → (s.take k).sum ≤ ((a :: s).take k).sum
  | _, _, 0, _, _ => by simp
  | [], _, k + 1, _, h => by simp at h
  | b :: s, a, k + 1, hd, h => by
    rw [Dn, List.pairwise_cons] at hd
    have h1 := take_le_cons s b k hd.2 (by simpa using h)
    have h2 := hd.1 b List.mem_cons_self
    simp only [List.take_succ_cons, List.sum_cons] at h1 ⊢
    omega
theorem sub_le {l s : List Int} (h : l.Sublist s) : Dn s → l.sum ≤ (s.take l.length).sum := by
  induction h with
  | slnil => intro _; simp
  | @cons l s a h ih =>
    intro hd
    exact Int.le_trans (ih (List.pairwise_cons.mp hd).2) (take_le_cons s a l.length hd h.length_le)
  | @cons_cons l s a h ih =>
    intro hd
    have := ih (List.pairwise_cons.mp hd).2
    simp only [List.length_cons, List.take_succ_cons, List.sum_cons]
    omega
theorem msum_le (k : Int) : ∀ (s : List Int) (o : Nat), o ≤ s.length → msum k s ≤ k * o + (s.drop o).sum
  | [], o, h => by
    have : o = 0 := by simpa using h
    subst this
    simp [msum]
  | a :: s, 0, _ => by
    have := msum_le k s 0 (Nat.zero_le _)
    simp only [msum_cons, List.drop_zero, List.sum_cons, Int.natCast_zero, Int.mul_zero] at this ⊢
    have := Int.min_le_left a k
    omega
  | a :: s, o + 1, h => by
    have := msum_le k s o (by simpa using h)
    simp only [msum_cons, List.drop_succ_cons]
    have h2 := Int.min_le_right a k
    have h3 : k * ((o + 1 : Nat) : Int) = k * (o : Int) + k := by rw [Int.natCast_add, Int.mul_add]; simp
    omega
theorem msum_all (k : Int) : ∀ s : List Int, (∀ x ∈ s, x ≤ k) → msum k s = s.sum
  | [], _ => rfl
  | a :: s, h => by
    rw [msum_cons, List.sum_cons, msum_all k s (fun x m => h x (List.mem_cons_of_mem _ m)), Int.min_eq_left (h a List.mem_cons_self)]
theorem best (k : Int) : ∀ s : List Int, Dn s → ∃ o : Nat, o ≤ s.length ∧ k * o + (s.drop o).sum = msum k s
  | [], _ => ⟨0, Nat.zero_le _, by simp [msum]⟩
  | a :: s, hd => by
    by_cases h : a ≤ k
    · refine ⟨0, Nat.zero_le _, ?_⟩
      rw [msum_all k (a :: s) (fun x m => ?_)]
      · simp
      · rcases List.mem_cons.mp m with rfl | m
        · exact h
        · exact Int.le_trans ((List.pairwise_cons.mp hd).1 x m) h
    · obtain ⟨o, h1, h2⟩ := best k s (List.pairwise_cons.mp hd).2
      refine ⟨o + 1, by simpa using h1, ?_⟩
      have h3 : k * ((o + 1 : Nat) : Int) = k * (o : Int) + k := by rw [Int.natCast_add, Int.mul_add]; simp
      have h4 : min a k = k := Int.min_eq_right (by omega)
      rw [msum_cons, h4, List.drop_succ_cons, h3]
      omega
/-- the balance at a place -/
def bal (os us : List Int) (m o : Nat) : Int := m * o + ((dsc us).drop o).sum - ((dsc os).take m).sum
theorem good_of {os us : List Int} (h : ∀ m o : Nat, m ≤ os.length → o ≤ us.length → 0 ≤ bal os us m o) : Good os us := fun A hA => by
  obtain ⟨A', p, q⟩ := List.exists_perm_sublist hA (dsc_perm os).symm
  have h1 := sub_le q (dsc_dn os)
  rw [p.length_eq, sum_perm p] at h1
  obtain ⟨o, ho, e⟩ := best A.length (dsc us) (dsc_dn us)
  have hu : (dsc us).length = us.length := List.length_mergeSort us
  have h2 := h A.length o hA.length_le (by omega)
  rw [bal, e, msum_perm _ (dsc_perm us)] at h2
  omega
theorem bal_of {os us : List Int} (h : Good os us) (m o : Nat) (hm : m ≤ os.length) (ho : o ≤ us.length) : 0 ≤ bal os us m o := by
  obtain ⟨A, p, q⟩ := List.exists_perm_sublist (List.take_sublist m (dsc os)) (dsc_perm os)
  have h1 := h A q
  have hl : (dsc os).length = os.length := List.length_mergeSort os
  have hu : (dsc us).length = us.length := List.length_mergeSort us
  have hk : A.length = m := by rw [p.length_eq, List.length_take]; omega
  rw [sum_perm p, hk] at h1
  have h2 := msum_le m (dsc us) o (by omega)
  rw [msum_perm _ (dsc_perm us)] at h2
  rw [bal]
  omega
theorem bal_ends {os us : List Int} (h : os.sum = us.sum) : bal os us 0 us.length = 0 ∧ bal os us os.length 0 = 0 := by
  have hl : (dsc os).length = os.length := List.length_mergeSort os
  have hu : (dsc us).length = us.length := List.length_mergeSort us
  constructor
  · rw [bal, List.drop_of_length_le (by omega)]
    simp
  · rw [bal, List.take_of_length_le (by omega), sum_perm (dsc_perm os)]
    simp only [List.drop_zero, sum_perm (dsc_perm us)]
    omega
/-- a row taken off -/
def less (us r : List Int) : List Int := (us.zip r).map fun x => x.1 - x.2
theorem less_cons (u x : Int) (us r : List Int) : less (u :: us) (x :: r) = (u - x) :: less us r := rfl
theorem less_sum : ∀ (us r : List Int), r.length = us.length → (less us r).sum = us.sum - r.sum
  | [], [], _ => rfl
  | u :: us, x :: r, h => by
    rw [less_cons, List.sum_cons, List.sum_cons, List.sum_cons, less_sum us r (by simpa using h)]
    omega
  | [], _ :: _, h => by simp at h
  | _ :: _, [], h => by simp at h
theorem less_one (k : Int) : ∀ (us r : List Int), r.length = us.length → (∀ p ∈ us.zip r, (p.2 = 0 ∨ p.2 = 1) ∧ (p.2 = 1 → k < p.1)) → msum k (less us r) = msum k us
  | [], [], _, _ => rfl
  | u :: us, x :: r, h, q => by
    rw [less_cons, msum_cons, msum_cons, less_one k us r (by simpa using h) fun p m => q p (List.mem_cons_of_mem _ m)]
    have q := q (u, x) List.mem_cons_self
    simp only at q
    rcases q with ⟨e | e, q⟩
    · rw [e]; congr 2; omega
    · have := q e
      congr 1
      rw [Int.min_eq_right (by omega), Int.min_eq_right (by omega)]
  | [], _ :: _, h, _ => by simp at h
  | _ :: _, [], h, _ => by simp at h
theorem less_two (k : Int) : ∀ (us r : List Int), r.length = us.length → (∀ p ∈ us.zip r, (p.2 = 0 ∨ p.2 = 1) ∧ (p.2 = 0 → p.1 ≤ k)) → msum k (less us r) = msum (k + 1) us - r.sum
  | [], [], _, _ => rfl
  | u :: us, x :: r, h, q => by
    rw [less_cons, msum_cons, msum_cons, List.sum_cons, less_two k us r (by simpa using h) fun p m => q p (List.mem_cons_of_mem _ m)]
    have q := q (u, x) List.mem_cons_self
    simp only at q
    rcases q with ⟨e | e, q⟩
    · have := q e
      rw [e, Int.min_eq_left (by omega : u - 0 ≤ k), Int.min_eq_left (by omega : u ≤ k + 1)]
      omega
    · have h1 : min (u - x) k = min u (k + 1) - 1 := by omega
      rw [h1]
      omega
  | [], _ :: _, h, _ => by simp at h
  | _ :: _, [], h, _ => by simp at h
/-- r takes o of the greatest columns -/
structure Top (o : Int) (us r : List Int) : Prop where
  len : r.length = us.length
  e : ∀ y ∈ r, y = 0 ∨ y = 1
  sum : r.sum = o
  top : ∀ p ∈ us.zip r, ∀ p' ∈ us.zip r, p.2 = 1 → p'.2 = 0 → p'.1 ≤ p.1
theorem Good.step {o : Int} {os us r : List Int} (h : Good (o :: os) us) (t : Top o us r) : Good os (less us r) := fun A hA => by
  have e01 : ∀ p ∈ us.zip r, p.2 = 0 ∨ p.2 = 1 := fun p m => t.e _ (List.of_mem_zip m).2
  by_cases q : ∀ p ∈ us.zip r, p.2 = 1 → (A.length : Int) < p.1
  · rw [less_one _ us r t.len fun p m => ⟨e01 p m, q p m⟩]
    exact h A (hA.cons _)
  · have q : ∃ p, p ∈ us.zip r ∧ p.2 = 1 ∧ p.1 ≤ (A.length : Int) := by
      refine Classical.byContradiction fun n => q fun p m e => ?_
      refine Int.not_le.mp fun z => n ⟨p, m, e, z⟩
    obtain ⟨p, m, e, z⟩ := q
    rw [less_two _ us r t.len fun p' m' => ⟨e01 p' m', fun e' => Int.le_trans (t.top p m p' m' e e') z⟩, t.sum]
    have := h (o :: A) (hA.cons₂ _)
    rw [List.sum_cons, List.length_cons] at this
    have e2 : ((A.length + 1 : Nat) : Int) = A.length + 1 := rfl
    rw [e2] at this
    omega
theorem less_nn {o : Int} {os us r : List Int} (h : Good (o :: os) us) (t : Top o us r) (hu : ∀ u ∈ us, 0 ≤ u) : ∀ u ∈ less us r, 0 ≤ u := by
  intro v hv
  obtain ⟨p, hp, rfl⟩ := List.mem_map.mp hv
  have hp1 := hu _ (List.of_mem_zip hp).1
  rcases t.e _ (List.of_mem_zip hp).2 with e | e
  · omega
  · refine Classical.byContradiction fun n => ?_
    have z : p.1 = 0 := by omega
    -- a column of 0 is taken: all others hold at most 1 less
    have h1 := h [o] (List.Sublist.cons₂ _ (List.nil_sublist _))
    simp only [List.sum_cons, List.sum_nil, List.length_singleton] at h1
    have h2 := less_two 0 us r t.len fun p' m' => ⟨t.e _ (List.of_mem_zip m').2, fun e' => by have := t.top p hp p' m' e e'; omega⟩
    have h3 : msum 0 (less us r) < 0 := by
      have gen : ∀ l : List Int, (∃ x ∈ l, x < 0) → msum 0 l < 0 := by
        intro l
        induction l with
        | nil => rintro ⟨x, hx, _⟩; cases hx
        | cons a l ih =>
          rintro ⟨x, hx, hx0⟩
          rw [msum_cons]
          have hneg : ∀ l : List Int, msum 0 l ≤ 0 := by
            intro l
            induction l with
            | nil => simp [msum]
            | cons a l ih => rw [msum_cons]; have := Int.min_le_right a 0; omega
          rcases List.mem_cons.mp hx with rfl | hx
          · have := hneg l
            have := Int.min_le_left x 0
            omega
          · have := ih ⟨x, hx, hx0⟩
            have := Int.min_le_right a 0
            omega
      exact gen _ ⟨_, hv, by omega⟩
    have e2 : ((1 : Nat) : Int) = 0 + 1 := rfl
    rw [e2, ← Int.zero_add (0 : Int)] at h1
    rw [t.sum] at h2
    simp only [Int.zero_add] at h1 h2
    omega
theorem zero_of : ∀ {us : List Int}, us.sum = 0 → (∀ u ∈ us, 0 ≤ u) → ∀ u ∈ us, u = 0
  | [], _, _, u, h => by cases h
  | a :: us, hs, hn, u, h => by
    have nn : ∀ l : List Int, (∀ u ∈ l, 0 ≤ u) → 0 ≤ l.sum := by
      intro l
      induction l with
      | nil => intro _; simp
      | cons a l ih =>
        intro h
        rw [List.sum_cons]
        have := ih fun u m => h u (List.mem_cons_of_mem _ m)
        have := h a List.mem_cons_self
        omega
    rw [List.sum_cons] at hs
    have h1 := nn us fun u m => hn u (List.mem_cons_of_mem _ m)
    have h2 := hn a List.mem_cons_self
    rcases List.mem_cons.mp h with rfl | h
    · omega
    · exact zero_of (by omega) (fun u m => hn u (List.mem_cons_of_mem _ m)) u h
/-- the column sums -/
def colSum (W : List (List Int)) (j : Nat) : Int := (W.map fun r => r.getD j 0).sum
theorem colSum_cons (r : List Int) (W : List (List Int)) (j : Nat) : colSum (r :: W) j = r.getD j 0 + colSum W j := by simp [colSum]
theorem less_getD {us r : List Int} (h : r.length = us.length) (j : Nat) : (less us r).getD j 0 = us.getD j 0 - r.getD j 0 := by
  simp only [less, List.getD_eq_getElem?_getD, List.getElem?_map, List.getElem?_zip_eq_some, List.zip]
  rw [List.getElem?_zipWith]
  by_cases hj : j < us.length
  · have hr : j < r.length := by omega
    rw [List.getElem?_eq_getElem hj, List.getElem?_eq_getElem hr]
    rfl
  · rw [List.getElem?_eq_none (by omega), List.getElem?_eq_none (by omega)]
    rfl
/-- rows by need: f picks a row -/
def weave (f : Int → List Int → List Int) : List Int → List Int → List (List Int)
  | [], _ => []
  | o :: os, us => f o us :: weave f os (less us (f o us))
theorem weave_ok {f : Int → List Int → List Int} (hf : ∀ (o : Int) (us : List Int), 0 ≤ o → o ≤ us.length → Top o us (f o us)) :
    ∀ {os us : List Int}, Good os us → os.sum = us.sum → (∀ o ∈ os, 0 ≤ o) → (∀ u ∈ us, 0 ≤ u) → (weave f os us).map (·.sum) = os ∧ ∀ j, colSum (weave f os us) j = us.getD j 0
  | [], us, _, hs, _, hu => ⟨rfl, fun j => by
    have h := zero_of (us := us) (by simpa using hs.symm) hu
    show (0 : Int) = _
    rw [List.getD_eq_getElem?_getD]
    by_cases hj : j < us.length
    · rw [List.getElem?_eq_getElem hj]
      exact (h _ (List.getElem_mem hj)).symm
    · rw [List.getElem?_eq_none (by omega)]
      rfl⟩
  | o :: os, us, hg, hs, ho, hu => by
    have h1 := hg [o] (List.Sublist.cons₂ _ (List.nil_sublist _))
    have h2 : ∀ l : List Int, msum 1 l ≤ l.length := by
      intro l
      induction l with
      | nil => simp [msum]
      | cons a l ih => rw [msum_cons, List.length_cons]; have := Int.min_le_right a 1; omega
    have t := hf o us (ho o List.mem_cons_self) (by have := h2 us; have e1 : ((1 : Nat) : Int) = 1 := rfl; simp only [List.sum_cons, List.sum_nil, List.length_singleton, e1] at h1; omega)
    have ls := less_sum us _ t.len
    rw [t.sum] at ls
    rw [List.sum_cons] at hs
    obtain ⟨a, b⟩ := weave_ok hf (hg.step t) (by omega) (fun o m => ho o (List.mem_cons_of_mem _ m)) (less_nn hg t hu)
    refine ⟨by rw [weave, List.map_cons, t.sum, a], fun j => ?_⟩
    rw [weave, colSum_cons, b j, less_getD t.len]
    omega
/-- .. and a table's own counts are good -/
theorem col_le (n : Nat) : ∀ (W : List (List Int)), (∀ r ∈ W, ∀ y ∈ r, y = 0 ∨ y = 1) → ∀ j, 0 ≤ colSum W j ∧ colSum W j ≤ W.length
  | [], _, j => by simp [colSum]
  | r :: W, h, j => by
    have := col_le n W (fun r m => h r (List.mem_cons_of_mem _ m)) j
    rw [colSum_cons, List.length_cons]
    have : 0 ≤ r.getD j 0 ∧ r.getD j 0 ≤ 1 := by
      rw [List.getD_eq_getElem?_getD]
      by_cases hj : j < r.length
      · rw [List.getElem?_eq_getElem hj]
        rcases h r List.mem_cons_self _ (List.getElem_mem hj) with e | e <;> simp [e]
      · rw [List.getElem?_eq_none (by omega)]
        simp
    omega
theorem col_sub {W' W : List (List Int)} (h : W'.Sublist W) (q : ∀ r ∈ W, ∀ y ∈ r, y = 0 ∨ y = 1) (j : Nat) : colSum W' j ≤ colSum W j := by
  induction h with
  | slnil => exact Int.le_refl _
  | @cons l s a h ih =>
    have := ih fun r m => q r (List.mem_cons_of_mem _ m)
    have h2 := (col_le 0 [a] (fun r m => q r (by rw [List.mem_singleton.mp m]; exact List.mem_cons_self)) j).1
    rw [colSum_cons] at h2 ⊢
    have : colSum [] j = 0 := rfl
    omega
  | @cons_cons l s a h ih =>
    have := ih fun r m => q r (List.mem_cons_of_mem _ m)
    rw [colSum_cons, colSum_cons]
    omega
theorem sum_range (r : List Int) : ∀ n, r.length = n → ((List.range n).map fun j => r.getD j 0).sum = r.sum := by
  intro n h
  subst h
  congr 1
  refine List.ext_getElem (by simp) fun i h1 h2 => ?_
  simp [List.getElem_map, List.getD_eq_getElem?_getD, h2]
theorem sum_add (f g : Nat → Int) : ∀ l : List Nat, (l.map fun j => f j + g j).sum = (l.map f).sum + (l.map g).sum
  | [] => rfl
  | a :: l => by
    simp only [List.map_cons, List.sum_cons, sum_add f g l]
    omega
theorem sum_rows (n : Nat) : ∀ W : List (List Int), (∀ r ∈ W, r.length = n) → (W.map (·.sum)).sum = ((List.range n).map fun j => colSum W j).sum
  | [], _ => by
    have : ((List.range n).map fun j => colSum [] j) = (List.range n).map fun _ => (0 : Int) := rfl
    rw [this]
    induction n with
    | zero => rfl
    | succ n ih => rw [List.range_succ, List.map_append, List.sum_append_int, ← ih (by intro r m; cases m) rfl]; rfl
  | r :: W, h => by
    rw [List.map_cons, List.sum_cons, sum_rows n W fun r m => h r (List.mem_cons_of_mem _ m), ← sum_range r n (h r List.mem_cons_self), ← sum_add]
    simp only [colSum_cons]
theorem sum_mono (f g : Nat → Int) : ∀ l : List Nat, (∀ j ∈ l, f j ≤ g j) → (l.map f).sum ≤ (l.map g).sum
  | [], _ => Int.le_refl _
  | a :: l, h => by
    simp only [List.map_cons, List.sum_cons]
    have := sum_mono f g l fun j m => h j (List.mem_cons_of_mem _ m)
    have := h a List.mem_cons_self
    omega
theorem tab_good {W : List (List Int)} {n : Nat} (hr : ∀ r ∈ W, r.length = n) (q : ∀ r ∈ W, ∀ y ∈ r, y = 0 ∨ y = 1) : Good (W.map (·.sum)) ((List.range n).map fun j => colSum W j) := fun A hA => by
  obtain ⟨W', h1, rfl⟩ := List.sublist_map_iff.mp hA
  have q' : ∀ r ∈ W', ∀ y ∈ r, y = 0 ∨ y = 1 := fun r m => q r (h1.subset m)
  rw [sum_rows n W' fun r m => hr r (h1.subset m), List.length_map, msum, List.map_map]
  refine sum_mono _ _ _ fun j _ => ?_
  have a := col_sub h1 q j
  have b := (col_le n W' q' j).2
  show _ ≤ min (colSum W j) W'.length
  omega
/-- the row by need, as the program picks it -/
def need (lf : List Int) : List (Int × Int) := lf.zipIdx.map fun x => (-x.1, ((x.2 : Nat) : Int))
def order (lf : List Int) : List (Int × Int) := (need lf).mergeSort (dataLe false fun x : Int × Int => PyData.tuple [.int x.1, .int x.2])
def chosen (ov : Int) (lf : List Int) : List Int := ((order lf).take ov.toNat).map fun x => x.2
def rbn (ov : Int) (lf : List Int) : List Int := (List.range (lf.length : Int).toNat).map fun x => if decide (((x : Nat) : Int) ∈ chosen ov lf) then 1 else 0
theorem order_perm (lf : List Int) : (order lf).Perm (need lf) := List.mergeSort_perm _ _
theorem order_up (lf : List Int) : (order lf).Pairwise fun p q => p.1 < q.1 ∨ p.1 = q.1 ∧ p.2 ≤ q.2 := by
  unfold order
  rw [dataLe_ii (fun x : Int × Int => x.1) (fun x : Int × Int => x.2)]
  refine (List.pairwise_mergeSort (fun a b c h1 h2 => ?_) (fun a b => ?_) _).imp fun {a b} h => by simpa using h
  · simp only [decide_eq_true_eq] at h1 h2 ⊢; omega
  · simp only [Bool.or_eq_true, decide_eq_true_eq]; omega
theorem need_mem {lf : List Int} {q : Int × Int} (h : q ∈ need lf) : ∃ i : Nat, i < lf.length ∧ q.2 = i ∧ q.1 = -lf.getD i 0 := by
  obtain ⟨⟨u, i⟩, h1, rfl⟩ := List.mem_map.mp h
  have h2 := List.mem_zipIdx_iff_getElem?.mp h1
  simp only at h2
  obtain ⟨h3, h4⟩ := List.getElem?_eq_some_iff.mp h2
  refine ⟨i, h3, rfl, ?_⟩
  simp only [List.getD_eq_getElem?_getD, h2]
  rfl
theorem mem_need {lf : List Int} {i : Nat} (h : i < lf.length) : (-lf.getD i 0, (i : Int)) ∈ need lf := by
  refine List.mem_map.mpr ⟨(lf[i], i), List.mem_zipIdx_iff_getElem?.mpr ?_, ?_⟩
  · simp [h]
  · simp [h]
theorem need_snd (lf : List Int) : (need lf).map (·.2) = (List.range lf.length).map fun i : Nat => (i : Int) := by
  unfold need
  rw [List.map_map]
  refine List.ext_getElem (by simp) fun i h1 h2 => ?_
  simp
theorem cast_nodup (n : Nat) : ((List.range n).map fun i : Nat => (i : Int)).Nodup := by
  rw [List.Nodup, List.pairwise_map]
  exact List.nodup_range.imp fun {a b} h e => h (by omega)
theorem ind_sum (n : Nat) : ∀ C : List Int, C.Nodup → (∀ c ∈ C, 0 ≤ c ∧ c < n) → ((List.range n).map fun x : Nat => if ((x : Nat) : Int) ∈ C then (1 : Int) else 0).sum = C.length
  | [], _, _ => by
    have : ((List.range n).map fun x : Nat => if ((x : Nat) : Int) ∈ ([] : List Int) then (1 : Int) else 0) = (List.range n).map fun _ => (0 : Int) := by simp
    rw [this]
    induction n with
    | zero => rfl
    | succ n ih => rw [List.range_succ, List.map_append, List.sum_append_int]; simpa using ih (by simp) (by simp)
  | c :: C, nd, h => by
    rw [List.nodup_cons] at nd
    have ih := ind_sum n C nd.2 fun c m => h c (List.mem_cons_of_mem _ m)
    have e : ((List.range n).map fun x : Nat => if ((x : Nat) : Int) ∈ c :: C then (1 : Int) else 0) = (List.range n).map fun x : Nat => (if (x : Int) = c then (1 : Int) else 0) + if (x : Int) ∈ C then (1 : Int) else 0 := by
      refine List.map_congr_left fun x _ => ?_
      by_cases h1 : (x : Int) = c
      · have : (x : Int) ∉ C := h1 ▸ nd.1
        simp [h1, nd.1]
      · simp [h1]
    rw [e, sum_add, ih, List.length_cons]
    have one : ∀ (m : Nat) (c : Int), 0 ≤ c → ((List.range m).map fun x : Nat => if (x : Int) = c then (1 : Int) else 0).sum = if c < m then 1 else 0 := by
      intro m c h0
      induction m with
      | zero => simp; omega
      | succ m ih =>
        rw [List.range_succ, List.map_append, List.sum_append_int, ih]
        simp only [List.map_cons, List.map_nil, List.sum_cons, List.sum_nil]
        by_cases q1 : c < m
        · rw [if_pos q1, if_neg (by omega), if_pos (by omega)]; rfl
        · by_cases q2 : (m : Int) = c
          · rw [if_neg q1, if_pos q2, if_pos (by omega)]; rfl
          · rw [if_neg q1, if_neg q2, if_neg (by omega)]; rfl
    have hc := h c List.mem_cons_self
    rw [one n c hc.1, if_pos hc.2]
    omega
theorem rbn_len (ov : Int) (lf : List Int) : (rbn ov lf).length = lf.length := by simp [rbn]
theorem chosen_nd (ov : Int) (lf : List Int) : (chosen ov lf).Nodup := by
  have h : ((order lf).map (·.2)).Nodup := by
    rw [List.Perm.nodup_iff ((order_perm lf).map _), need_snd]
    exact cast_nodup _
  exact List.Pairwise.sublist ((List.take_sublist _ _).map _) h
theorem chosen_in {ov : Int} {lf : List Int} {c : Int} (h : c ∈ chosen ov lf) : 0 ≤ c ∧ c < lf.length := by
  obtain ⟨q, h1, rfl⟩ := List.mem_map.mp h
  obtain ⟨i, h2, h3, _⟩ := need_mem ((order_perm lf).mem_iff.mp (List.mem_of_mem_take h1))
  omega
theorem rbn_top {o : Int} {us : List Int} (h0 : 0 ≤ o) (h1 : o ≤ us.length) : Top o us (rbn o us) := by
  have hl : (order us).length = us.length := by rw [(order_perm us).length_eq]; simp [need]
  have hget : ∀ i, i < us.length → (rbn o us)[i]? = some (if (i : Int) ∈ chosen o us then 1 else 0) := fun i hi => by simp [rbn, hi]
  refine ⟨rbn_len o us, fun y hy => ?_, ?_, ?_⟩
  · obtain ⟨x, _, rfl⟩ := List.mem_map.mp hy
    split
    · exact .inr rfl
    · exact .inl rfl
  · have := ind_sum us.length (chosen o us) (chosen_nd o us) fun c m => chosen_in m
    have e : rbn o us = (List.range us.length).map fun x : Nat => if ((x : Nat) : Int) ∈ chosen o us then (1 : Int) else 0 := by simp [rbn]
    rw [e, this]
    simp only [chosen, List.length_map, List.length_take, hl]
    omega
  · intro p hp p' hp' e1 e2
    obtain ⟨i, hi⟩ := List.mem_iff_getElem?.mp hp
    obtain ⟨j, hj⟩ := List.mem_iff_getElem?.mp hp'
    rw [List.getElem?_zip_eq_some] at hi hj
    have hil : i < us.length := (List.getElem?_eq_some_iff.mp hi.1).1
    have hjl : j < us.length := (List.getElem?_eq_some_iff.mp hj.1).1
    have ci : (i : Int) ∈ chosen o us := by
      refine Classical.byContradiction fun n => ?_
      have q := hi.2
      rw [hget i hil, if_neg n] at q
      have := Option.some.inj q
      omega
    have cj : (j : Int) ∉ chosen o us := fun n => by
      have q := hj.2
      rw [hget j hjl, if_pos n] at q
      have := Option.some.inj q
      omega
    obtain ⟨q, q1, q2⟩ := List.mem_map.mp ci
    obtain ⟨i', r1, r2, r3⟩ := need_mem ((order_perm us).mem_iff.mp (List.mem_of_mem_take q1))
    have hii : i' = i := by omega
    subst hii
    have jn := (order_perm us).mem_iff.mpr (mem_need hjl)
    rw [← List.take_append_drop o.toNat (order us), List.mem_append] at jn
    rcases jn with jn | jn
    · exact absurd (List.mem_map.mpr ⟨_, jn, rfl⟩) cj
    · have up := order_up us
      rw [← List.take_append_drop o.toNat (order us), List.pairwise_append] at up
      have := up.2.2 q q1 _ jn
      have a1 : us.getD i' 0 = p.1 := by rw [List.getD_eq_getElem?_getD, hi.1]; rfl
      have a2 : us.getD j 0 = p'.1 := by rw [List.getD_eq_getElem?_getD, hj.1]; rfl
      simp only at this
      omega
theorem weave_rbn {os us : List Int} (hg : Good os us) (hs : os.sum = us.sum) (ho : ∀ o ∈ os, 0 ≤ o) (hu : ∀ u ∈ us, 0 ≤ u) : (weave rbn os us).map (·.sum) = os ∧ ∀ j, colSum (weave rbn os us) j = us.getD j 0 :=
  weave_ok (fun _ _ => rbn_top) hg hs ho hu
end GR

namespace K65
open PySem PySem.Spec L2 Asl PySem.W
open PyProof.Rows hiding St
open Asl.PyE (enc)
/-! ### the text -/
def topS (i : Nat) : Stmt := PySem.Challenge.pw_clothinonepiece_k65_whole_counts_wide.main.body.getD i (.Pass ⟨0, 0, 0, 0⟩)
abbrev s_balance_at : Stmt := topS 1
theorem sc_balance_at : FnScope ["counts", "many", "other", "overs", "unders"] ["counts", "many", "other"] (defScope s_balance_at) := ⟨rfl, rfl, rfl, by decide +kernel, rfl, by decide +kernel, by decide +kernel⟩
abbrev s_inner_places : Stmt := topS 2
theorem sc_inner_places : FnScope ["counts", "warps", "wefts", "places", "many", "other", "place"] ["counts"] (defScope s_inner_places) := ⟨rfl, rfl, rfl, by decide +kernel, rfl, by decide +kernel, by decide +kernel⟩
abbrev s_strength_of : Stmt := topS 3
theorem sc_strength_of : FnScope ["counts", "many", "other"] ["counts"] (defScope s_strength_of) := ⟨rfl, rfl, rfl, by decide +kernel, rfl, by decide +kernel, by decide +kernel⟩
abbrev s_is_integer : Stmt := topS 5
theorem sc_is_integer : FnScope ["thing"] ["thing"] (defScope s_is_integer) := ⟨rfl, rfl, rfl, by decide +kernel, rfl, by decide +kernel, by decide +kernel⟩
abbrev s_integer_within : Stmt := topS 6
theorem sc_integer_within : FnScope ["thing", "low", "high"] ["thing", "low", "high"] (defScope s_integer_within) := ⟨rfl, rfl, rfl, by decide +kernel, rfl, by decide +kernel, by decide +kernel⟩
abbrev s_tuple_of : Stmt := topS 7
theorem sc_tuple_of : FnScope ["thing", "many"] ["thing", "many"] (defScope s_tuple_of) := ⟨rfl, rfl, rfl, by decide +kernel, rfl, by decide +kernel, by decide +kernel⟩
abbrev s_are_integers : Stmt := topS 8
theorem sc_are_integers : FnScope ["thing", "part"] ["thing"] (defScope s_are_integers) := ⟨rfl, rfl, rfl, by decide +kernel, rfl, by decide +kernel, by decide +kernel⟩
abbrev s_counts_of : Stmt := topS 10
theorem sc_counts_of : FnScope ["weave", "overs", "row", "weft"] ["weave"] (defScope s_counts_of) := ⟨rfl, rfl, rfl, by decide +kernel, rfl, by decide +kernel, by decide +kernel⟩
abbrev s_is_drawn_entry : Stmt := topS 12
theorem sc_is_drawn_entry : FnScope ["thing"] ["thing"] (defScope s_is_drawn_entry) := ⟨rfl, rfl, rfl, by decide +kernel, rfl, by decide +kernel, by decide +kernel⟩
abbrev s_is_table : Stmt := topS 13
theorem sc_is_table : FnScope ["thing", "warps", "wefts", "let", "row", "entry"] ["thing", "warps", "wefts", "let"] (defScope s_is_table) := ⟨rfl, rfl, rfl, by decide +kernel, rfl, by decide +kernel, by decide +kernel⟩
abbrev s_low_place : Stmt := topS 15
theorem sc_low_place : FnScope ["counts", "many", "other"] ["counts"] (defScope s_low_place) := ⟨rfl, rfl, rfl, by decide +kernel, rfl, by decide +kernel, by decide +kernel⟩
abbrev s_row_by_need : Stmt := topS 16
theorem sc_row_by_need : FnScope ["over", "left", "order", "chosen", "weft", "need", "_"] ["over", "left"] (defScope s_row_by_need) := ⟨rfl, rfl, rfl, by decide +kernel, rfl, by decide +kernel, by decide +kernel⟩
abbrev s_some_weave : Stmt := topS 17
theorem sc_some_weave : FnScope ["counts", "left", "rows", "over", "row", "need", "entry"] ["counts"] (defScope s_some_weave) := ⟨rfl, rfl, rfl, by decide +kernel, rfl, by decide +kernel, by decide +kernel⟩
abbrev s_weave_answer : Stmt := topS 18
theorem sc_weave_answer : FnScope ["counts", "place"] ["counts"] (defScope s_weave_answer) := ⟨rfl, rfl, rfl, by decide +kernel, rfl, by decide +kernel, by decide +kernel⟩
abbrev s_has_counts : Stmt := topS 19
theorem sc_has_counts : FnScope ["counts", "thing"] ["counts", "thing"] (defScope s_has_counts) := ⟨rfl, rfl, rfl, by decide +kernel, rfl, by decide +kernel, by decide +kernel⟩
abbrev s_is_weave_answer : Stmt := topS 20
theorem sc_is_weave_answer : FnScope ["counts", "thing", "sums"] ["counts", "thing"] (defScope s_is_weave_answer) := ⟨rfl, rfl, rfl, by decide +kernel, rfl, by decide +kernel, by decide +kernel⟩
abbrev s_law_pool : Stmt := topS 22
theorem sc_law_pool : FnScope ["script", "pool", "cell"] ["script"] (defScope s_law_pool) := ⟨rfl, rfl, rfl, by decide +kernel, rfl, by decide +kernel, by decide +kernel⟩
abbrev s_law_take : Stmt := topS 23
theorem sc_law_take : FnScope ["pool", "many", "cell"] ["pool", "many"] (defScope s_law_take) := ⟨rfl, rfl, rfl, by decide +kernel, rfl, by decide +kernel, by decide +kernel⟩
abbrev s_law_same : Stmt := topS 24
theorem sc_law_same : FnScope ["told", "due", "rest", "one", "other", "at"] ["told", "due"] (defScope s_law_same) := ⟨rfl, rfl, rfl, by decide +kernel, rfl, by decide +kernel, by decide +kernel⟩
abbrev s_law_weave : Stmt := topS 25
theorem sc_law_weave : FnScope ["pool", "warps", "wefts", "habit", "rows", "warp", "row", "weft", "sign"] ["pool", "warps", "wefts"] (defScope s_law_weave) := ⟨rfl, rfl, rfl, by decide +kernel, rfl, by decide +kernel, by decide +kernel⟩
abbrev s_law_counts : Stmt := topS 26
theorem sc_law_counts : FnScope ["weave", "wefts", "unders", "weft", "row"] ["weave"] (defScope s_law_counts) := ⟨rfl, rfl, rfl, by decide +kernel, rfl, by decide +kernel, by decide +kernel⟩
abbrev s_law_balance : Stmt := topS 27
theorem sc_law_balance : FnScope ["counts", "many", "other", "overs", "unders"] ["counts", "many", "other"] (defScope s_law_balance) := ⟨rfl, rfl, rfl, by decide +kernel, rfl, by decide +kernel, by decide +kernel⟩
abbrev s_law_balances : Stmt := topS 28
theorem sc_law_balances : FnScope ["counts", "rows", "many", "other"] ["counts"] (defScope s_law_balances) := ⟨rfl, rfl, rfl, by decide +kernel, rfl, by decide +kernel, by decide +kernel⟩
abbrev s_law_lowest : Stmt := topS 30
theorem sc_law_lowest : FnScope ["counts", "row"] ["counts"] (defScope s_law_lowest) := ⟨rfl, rfl, rfl, by decide +kernel, rfl, by decide +kernel, by decide +kernel⟩
abbrev s_law_made : Stmt := topS 31
theorem sc_law_made : FnScope ["counts", "thing", "overs", "unders", "row", "sign"] ["counts", "thing"] (defScope s_law_made) := ⟨rfl, rfl, rfl, by decide +kernel, rfl, by decide +kernel, by decide +kernel⟩
abbrev s_law_asked : Stmt := topS 32
theorem sc_law_asked : FnScope ["counts", "weave", "told", "sums", "number"] ["counts", "weave"] (defScope s_law_asked) := ⟨rfl, rfl, rfl, by decide +kernel, rfl, by decide +kernel, by decide +kernel⟩
abbrev s_law_steeper : Stmt := topS 33
theorem sc_law_steeper : FnScope ["pool", "counts", "sides", "side", "row", "ones", "one", "others", "other", "at"] ["pool", "counts"] (defScope s_law_steeper) := ⟨rfl, rfl, rfl, by decide +kernel, rfl, by decide +kernel, by decide +kernel⟩
abbrev s_law_climb : Stmt := topS 34
theorem sc_law_climb : FnScope ["pool", "counts", "held", "lap", "steeper"] ["pool", "counts"] (defScope s_law_climb) := ⟨rfl, rfl, rfl, by decide +kernel, rfl, by decide +kernel, by decide +kernel⟩
abbrev s_law_wide : Stmt := topS 35
theorem sc_law_wide : FnScope ["pool", "warps", "wefts", "kind", "step", "over", "shift", "one", "other", "warp", "weft", "row"] ["pool"] (defScope s_law_wide) := ⟨rfl, rfl, rfl, by decide +kernel, rfl, by decide +kernel, by decide +kernel⟩
abbrev s_law : Stmt := topS 36
theorem sc_law : FnScope ["script", "pool", "lap", "weave", "counts", "made", "side", "row", "at", "ones", "steep"] ["script"] (defScope s_law) := ⟨rfl, rfl, rfl, by decide +kernel, rfl, by decide +kernel, by decide +kernel⟩
/-- what stands -/
structure All (K : PySem.W.Frag) (mg : Str → Option Value) : Prop where
  d_balance_at : Def K mg "balance_at" s_balance_at ["counts", "many", "other"]
  d_inner_places : Def K mg "inner_places" s_inner_places ["counts"]
  d_strength_of : Def K mg "strength_of" s_strength_of ["counts"]
  d_is_integer : Def K mg "is_integer" s_is_integer ["thing"]
  d_integer_within : Def K mg "integer_within" s_integer_within ["thing", "low", "high"]
  d_tuple_of : Def K mg "tuple_of" s_tuple_of ["thing", "many"]
  d_are_integers : Def K mg "are_integers" s_are_integers ["thing"]
  d_counts_of : Def K mg "counts_of" s_counts_of ["weave"]
  d_is_drawn_entry : Def K mg "is_drawn_entry" s_is_drawn_entry ["thing"]
  d_is_table : Def K mg "is_table" s_is_table ["thing", "warps", "wefts", "let"]
  d_low_place : Def K mg "low_place" s_low_place ["counts"]
  d_row_by_need : Def K mg "row_by_need" s_row_by_need ["over", "left"]
  d_some_weave : Def K mg "some_weave" s_some_weave ["counts"]
  d_weave_answer : Def K mg "weave_answer" s_weave_answer ["counts"]
  d_has_counts : Def K mg "has_counts" s_has_counts ["counts", "thing"]
  d_is_weave_answer : Def K mg "is_weave_answer" s_is_weave_answer ["counts", "thing"]
  d_law_pool : Def K mg "_law_pool" s_law_pool ["script"]
  d_law_take : Def K mg "_law_take" s_law_take ["pool", "many"]
  d_law_same : Def K mg "_law_same" s_law_same ["told", "due"]
  d_law_weave : Def K mg "_law_weave" s_law_weave ["pool", "warps", "wefts"]
  d_law_counts : Def K mg "_law_counts" s_law_counts ["weave"]
  d_law_balance : Def K mg "_law_balance" s_law_balance ["counts", "many", "other"]
  d_law_balances : Def K mg "_law_balances" s_law_balances ["counts"]
  d_law_lowest : Def K mg "_law_lowest" s_law_lowest ["counts"]
  d_law_made : Def K mg "_law_made" s_law_made ["counts", "thing"]
  d_law_asked : Def K mg "_law_asked" s_law_asked ["counts", "weave"]
  d_law_steeper : Def K mg "_law_steeper" s_law_steeper ["pool", "counts"]
  d_law_climb : Def K mg "_law_climb" s_law_climb ["pool", "counts"]
  d_law_wide : Def K mg "_law_wide" s_law_wide ["pool"]
  d_law : Def K mg "law" s_law ["script"]
  b_abs : mg "abs" = none
  b_all : mg "all" = none
  b_bool : mg "bool" = none
  b_enumerate : mg "enumerate" = none
  b_int : mg "int" = none
  b_isinstance : mg "isinstance" = none
  b_len : mg "len" = none
  b_list : mg "list" = none
  b_min : mg "min" = none
  b_range : mg "range" = none
  b_sorted : mg "sorted" = none
  b_str : mg "str" = none
  b_sum : mg "sum" = none
  b_tuple : mg "tuple" = none
  b_zip : mg "zip" = none
variable {P : Program} {w : World} {K : PySem.W.Frag} {mg : Str → Option Value} {base : Heap}
abbrev CT := List Int × List Int
abbrev tI (l : List Int) : PyData := .tuple (l.map .int)
abbrev cD (c : CT) : PyData := .tuple [tI c.1, tI c.2]
/-- counts of a size that can be handled -/
structure Ck (c : CT) : Prop where
  l1 : 1 ≤ c.1.length
  m1 : c.1.length ≤ 100
  l2 : 1 ≤ c.2.length
  m2 : c.2.length ≤ 100
variable {P : Program} {w : World} {K : PySem.W.Frag} {mg : Str → Option Value} {base : Heap}
abbrev ge' : Int → Int → Bool := dataLe true PyData.int
def bal (c : CT) (m o : Int) : Int := m * o + ((c.2.mergeSort (dataLe true PyData.int)).drop o.toNat).sum - ((c.1.mergeSort (dataLe true PyData.int)).take m.toNat).sum
def SBal : FS := F3 cD PyData.int PyData.int (fun c m o => Ck c ∧ 0 ≤ m ∧ m ≤ 100 ∧ 0 ≤ o ∧ o ≤ 100) (fun c m o => .int (bal c m o))
theorem c_balance_at (a : All K mg) : Callee P w K mg base 1 "balance_at" ["counts", "many", "other"] SBal :=
  mkC a.d_balance_at sc_balance_at fun f cdv A outer s H E hr args hs R hl h => by
    have nd : (["counts", "many", "other", "overs", "unders"] : List Str).Nodup := by decide
    obtain ⟨c, m, o, rfl, ⟨hc, hm, hm2, ho, ho2⟩, r⟩ := h
    have h1 := hc.m1
    have h2 := hc.m2
    refine gss_cons (gs_set 3 nd (((gp_sortedR true (by exact hr) a.b_sorted (srt_ints _) (szl (by first | (simp only [List.length_range, List.length_map, List.length_zipIdx, List.length_zip, List.length_mergeSort, List.length_take, Int.toNat_natCast]; omega) | omega | assumption)) (gp_ix (gp_var 0 rfl) gp_int (s_tup rfl)))).of ?_))
    refine gss_cons (gs_set 4 nd (((gp_sortedR true (by exact hr) a.b_sorted (srt_ints _) (szl (by first | (simp only [List.length_range, List.length_map, List.length_zipIdx, List.length_zip, List.length_mergeSort, List.length_take, Int.toNat_natCast]; omega) | omega | assumption)) (gp_ix (gp_var 0 rfl) gp_int (s_tup rfl)))).of ?_))
    refine gss_one (gs_ret (((gp_bin (gp_bin (gp_bin (gp_var 1 rfl) (gp_var 2 rfl) (b_mul (by first | exact .inl (by omega) | exact .inr (by omega)))) (gp_sumL a.b_sum rfl (gp_fromL (gp_var 4 rfl) (gp_var 2 rfl) (by first | assumption | omega | (simp only [List.length_set, List.length_append, List.length_cons, List.length_nil, List.length_map, List.length_range]; omega)))) b_add) (gp_sumL a.b_sum rfl (gp_toL (gp_var 3 rfl) (gp_var 1 rfl) (by first | assumption | omega | (simp only [List.length_set, List.length_append, List.length_cons, List.length_nil, List.length_map, List.length_range]; omega)))) b_sub)).of ?_))
    exact r
def grid (a b : Int) : List (Int × Int) := (List.range a.toNat).flatMap fun x1 => (((fun x1 : Nat => (List.range b.toNat)) x1).filter ((fun x1 y2 => true : Nat → Nat → Bool) x1)).map fun y2 => (((x1 : Nat) : Int), ((y2 : Nat) : Int))
def places (c : CT) : List (Int × Int) := (grid (c.1.length + 1) (c.2.length + 1)).filter fun p => !decide (p ∈ [((0 : Int), (c.2.length : Int)), ((c.1.length : Int), 0)])
abbrev pD (p : Int × Int) : PyData := .tuple [.int p.1, .int p.2]
def SPlaces : FS := F1 cD Ck (fun c => .list ((places c).map pD))
theorem len_pairs {β : Type} (f : Nat → Nat → β) (a b : Nat) : ((List.range a).flatMap fun x => ((List.range b).filter fun _ => true).map (f x)).length = a * b := by
  rw [List.length_flatMap]
  simp only [List.filter_eq_self.mpr (fun _ _ => rfl), List.length_map, List.length_range]
  induction a with
  | zero => simp
  | succ a ih => rw [List.range_succ, List.map_append, List.sum_append, ih]; simp [Nat.succ_mul]
theorem sq_le {a b : Nat} (h1 : a ≤ 101) (h2 : b ≤ 101) : a * b ≤ 10201 := Nat.mul_le_mul h1 h2
theorem c_inner_places (a : All K mg) : Callee P w K mg base 1 "inner_places" ["counts"] SPlaces :=
  mkC a.d_inner_places sc_inner_places fun f cdv A outer s H E hr args hs R hl h => by
    have nd : (["counts", "warps", "wefts", "places", "many", "other", "place"] : List Str).Nodup := by decide
    obtain ⟨c, rfl, hc, r⟩ := h
    have h1 := hc.m1
    have h2 := hc.m2
    refine gss_cons (gs_set 1 nd (((gp_lenTm a.b_len (gp_ix (gp_var 0 rfl) gp_int (s_tup rfl)))).of ?_))
    refine gss_cons (gs_set 2 nd (((gp_lenTm a.b_len (gp_ix (gp_var 0 rfl) gp_int (s_tup rfl)))).of ?_))
    refine gss_cons (GLc.putP (lp_lc2M [("many", 4), ("other", 5)] [("other", 5)] (List.range (((c.1.length : Int) + (1 : Int))).toNat) (fun x1 => (List.range (((c.2.length : Int) + (1 : Int))).toNat)) (fun k : Nat => PyData.int (k : Int)) (fun k : Nat => PyData.int (k : Int)) (fun x1 y2 => true) (fun x1 y2 => (((x1 : Nat) : Int), ((y2 : Nat) : Int))) (fun x : (Int × Int) => (.tuple [(.int x.1), (.int x.2)])) rfl nd (((gip_rng1 a.b_range (gp_bin (gp_var 1 rfl) gp_int b_add) ⟨(by first | omega | assumption), (by first | omega | assumption)⟩)).eq ((intR0 _))) (szl (by rw [len_pairs (fun x y => ((x : Int), (y : Int)))]; exact Nat.le_trans (sq_le (by omega) (by omega)) (by decide))) (fun x1 hx1 s2 H2 C2 cl2 fp2 => (gg_name 4 nd ⟨rfl, (fun s502 H502 C502 cl502 fp502 => ((gip_rng1 a.b_range (gp_bin (gp_var 2 rfl) gp_int b_add) ⟨(by first | omega | assumption), (by first | omega | assumption)⟩)).eq ((intR0 _))), fun y2 hy2 s602 H602 C602 cl602 fp602 => (gg_name 5 nd ⟨rfl, .none, fun hpy2 s802 H802 C802 cl802 fp802 => (gp_tup (gap_cons (gp_var 4 rfl) (gap_cons (gp_var 5 rfl) gap_nil)))⟩)⟩))) 3 ?_)
    have hg : (grid (c.1.length + 1) (c.2.length + 1)).length ≤ 1000000 := by rw [grid, len_pairs (fun x y => ((x : Int), (y : Int)))]; exact Nat.le_trans (sq_le (by omega) (by omega)) (by decide)
    refine gss_one (gs_ret (((gp_lcIf [("place", 6)] (grid (c.1.length + 1) (c.2.length + 1)) (fun x : (Int × Int) => (.tuple [(.int x.1), (.int x.2)])) (fun x : (Int × Int) => (.tuple [(.int x.1), (.int x.2)])) (fun x3 => (!decide (x3 ∈ [((0 : Int), (c.2.length : Int)), ((c.1.length : Int), (0 : Int))]))) rfl nd (gip_lst (gp_var 3 rfl)) rfl (szl (by first | (simp only [List.length_range, List.length_map, List.length_zipIdx, List.length_zip, List.length_mergeSort, List.length_take, Int.toNat_natCast]; omega) | omega | assumption)) (fun x3 hx3 s3 H3 C3 cl3 fp3 => (gg_name 6 nd ⟨rfl, fun s503 H503 C503 cl503 fp503 => ⟨(gtp_cmp (gp_var 6 rfl) (gp_tup (gap_cons (gp_tup (gap_cons gp_int (gap_cons (gp_var 2 rfl) gap_nil))) (gap_cons (gp_tup (gap_cons (gp_var 1 rfl) (gap_cons gp_int gap_nil))) gap_nil))) (q_notInT hr (α := (Int × Int)) x3 [((0 : Int), (c.2.length : Int)), ((c.1.length : Int), (0 : Int))])), fun hpx3 => (gp_var 6 rfl)⟩⟩)))).of ?_))
    exact r
theorem grid_mem {a b : Int} (ha : 0 ≤ a) (hb : 0 ≤ b) (p : Int × Int) : p ∈ grid a b ↔ 0 ≤ p.1 ∧ p.1 < a ∧ 0 ≤ p.2 ∧ p.2 < b := by
  simp only [grid, List.mem_flatMap, List.mem_map, List.mem_filter, List.mem_range]
  constructor
  · rintro ⟨x, hx, y, ⟨hy, _⟩, rfl⟩
    simp only
    omega
  · rintro ⟨h1, h2, h3, h4⟩
    refine ⟨p.1.toNat, by omega, p.2.toNat, ⟨by omega, trivial⟩, ?_⟩
    ext <;> simp only <;> omega
theorem places_mem {c : CT} (p : Int × Int) : p ∈ places c ↔ (0 ≤ p.1 ∧ p.1 ≤ c.1.length ∧ 0 ≤ p.2 ∧ p.2 ≤ c.2.length) ∧ p ≠ (0, (c.2.length : Int)) ∧ p ≠ ((c.1.length : Int), 0) := by
  unfold places
  rw [List.mem_filter, grid_mem (by omega) (by omega)]
  simp only [Bool.not_eq_true', decide_eq_false_iff_not, List.mem_cons, List.not_mem_nil, or_false, not_or]
  constructor
  · rintro ⟨⟨h1, h2, h3, h4⟩, h5, h6⟩
    exact ⟨⟨h1, by omega, h3, by omega⟩, h5, h6⟩
  · rintro ⟨⟨h1, h2, h3, h4⟩, h5, h6⟩
    exact ⟨⟨h1, by omega, h3, by omega⟩, h5, h6⟩
theorem places_len (c : CT) (h1 : c.1.length ≤ 100) (h2 : c.2.length ≤ 100) : (places c).length ≤ 1000000 := by
  refine Nat.le_trans (List.length_filter_le _ _) ?_
  rw [grid, len_pairs (fun x y => ((x : Int), (y : Int)))]
  exact Nat.le_trans (sq_le (by omega) (by omega)) (by decide)
theorem places_ne {c : CT} (hc : Ck c) : 0 < (places c).length := by
  have h1 := hc.l1
  have h2 := hc.l2
  refine List.length_pos_of_mem ((places_mem (0, 0)).mpr ⟨⟨Int.le_refl _, by simp, Int.le_refl _, by simp⟩, fun e => ?_, fun e => ?_⟩)
  · have := congrArg Prod.snd e
    simp only at this
    omega
  · have := congrArg Prod.fst e
    simp only at this
    omega
def SStr : FS := F1 cD Ck (fun c => .int (minI ((places c).map fun p => bal c p.1 p.2)))
theorem c_strength_of (a : All K mg) : Callee P w K mg base 2 "strength_of" ["counts"] SStr :=
  mkC a.d_strength_of sc_strength_of fun f cdv A outer s H E hr args hs R hl h => by
    have nd : (["counts", "many", "other"] : List Str).Nodup := by decide
    obtain ⟨c, rfl, hc, r⟩ := h
    have h1 := hc.m1
    have h2 := hc.m2
    have hpl := places_len c h1 h2
    have hpn : 0 < ((places c).map fun x1 => bal c x1.1 x1.2).length := by rw [List.length_map]; exact places_ne hc
    have hpm : ∀ p ∈ places c, Ck c ∧ 0 ≤ p.1 ∧ p.1 ≤ 100 ∧ 0 ≤ p.2 ∧ p.2 ≤ 100 := fun p hp => by have := ((places_mem p).mp hp).1; exact ⟨hc, by omega, by omega, by omega, by omega⟩
    refine gss_one (gs_ret (((gp_minL a.b_min rfl (gp_lcM [("many", 1), ("other", 2)] (places c) (fun x : (Int × Int) => (.tuple [(.int x.1), (.int x.2)])) (fun x1 => (bal c x1.1 x1.2)) PyData.int rfl nd (gip_lst (gp_c (c_inner_places a) (by exact hr) (gap_cons (gp_var 0 rfl) gap_nil) (pF1 c (by first | assumption | omega)))) rfl (szl (by first | (simp only [List.length_range, List.length_map, List.length_zipIdx, List.length_zip, List.length_mergeSort, List.length_take, Int.toNat_natCast]; omega) | omega | assumption)) (fun x1 hx1 s1 H1 C1 cl1 fp1 => (gg_tup rfl (ggs_cons (gg_name 1 nd (ggs_cons (gg_name 2 nd (ggs_nil ⟨rfl, fun s501 H501 C501 cl501 fp501 => (gp_c (c_balance_at a) (by exact hr) (gap_cons (gp_var 0 rfl) (gap_cons (gp_var 1 rfl) (gap_cons (gp_var 2 rfl) gap_nil))) (pF3 c x1.1 x1.2 (hpm _ hx1)))⟩)))))))) (by first | assumption | omega | (simp only [List.length_set, List.length_append, List.length_cons, List.length_nil, List.length_map, List.length_range]; omega)))).of ?_))
    exact r
def SIsInt : FS := F1 id (fun _ => True) (fun d => .bool (isB d "int" && !isB d "bool"))
theorem c_is_integer (a : All K mg) : Callee P w K mg base 1 "is_integer" ["thing"] SIsInt :=
  mkC a.d_is_integer sc_is_integer fun f cdv A outer s H E hr args hs R hl h => by
    have nd : (["thing"] : List Str).Nodup := by decide
    obtain ⟨d, rfl, -, r⟩ := h
    refine gss_one (gs_ret (((gp_and (gp_isInt a.b_isinstance a.b_int (gp_var 0 rfl)) (fun hq1 => (gp_one (gp_not (gp_isBool a.b_isinstance a.b_bool (gp_var 0 rfl))))))).of ?_))
    exact r
def SIW : FS := F3 PyData.int PyData.int PyData.int (fun _ _ _ => True) (fun t l h => .bool (decide (l ≤ t) && decide (t ≤ h)))
theorem c_integer_within (a : All K mg) : Callee P w K mg base 2 "integer_within" ["thing", "low", "high"] SIW :=
  mkC a.d_integer_within sc_integer_within fun f cdv A outer s H E hr args hs R hl h => by
    have nd : (["thing", "low", "high"] : List Str).Nodup := by decide
    obtain ⟨t, l, h, rfl, -, r⟩ := h
    refine gss_one (gs_ret (((gp_and (gp_c (c_is_integer a) hr (gap_cons (gp_var 0 rfl) gap_nil) (pF1 (PyData.int t) trivial)) (fun hq1 => (gp_one (gp_chain (gp_var 1 rfl) (gp_var 0 rfl) c_le (fun _ => (gp_var 2 rfl)) (fun _ => c_le)))))).of ?_))
    exact r
def STupOf : FS := F2 id PyData.int (fun _ _ => True) (fun d n => .bool (match d with | .tuple l => decide ((l.length : Int) = n) | _ => false))
theorem c_tuple_of (a : All K mg) : Callee P w K mg base 1 "tuple_of" ["thing", "many"] STupOf :=
  mkC a.d_tuple_of sc_tuple_of fun f cdv A outer s H E hr args hs R hl h => by
    have nd : (["thing", "many"] : List Str).Nodup := by decide
    obtain ⟨d, n, rfl, -, r⟩ := h
    by_cases ht : ∃ l, d = .tuple l
    · obtain ⟨l, rfl⟩ := ht
      refine gss_one (gs_ret (GE.mono (gp_and (gp_isTuple a.b_isinstance a.b_tuple (gp_var 0 rfl)) (fun h1 => gp_one (gp_cmp (gp_lenT a.b_len (gp_var 0 rfl)) (gp_var 1 rfl) c_eqI))) ?_))
      rintro ev h ⟨rfl, rfl⟩
      exact r
    · have e : isB d "tuple" = false := by
        cases d <;> first | rfl | exact absurd ⟨_, rfl⟩ ht
      refine gss_one (gs_ret (GE.mono (gp_and (u := false) (gp_isTuple a.b_isinstance a.b_tuple (gp_var 0 rfl)) (fun h1 => absurd (h1.symm.trans e) (by decide))) ?_))
      rintro ev h ⟨rfl, rfl⟩
      cases d <;> first | exact r | exact absurd ⟨_, rfl⟩ ht
def SAreInt : FS := F1 tI (fun l => l.length ≤ 100000) (fun _ => .bool true)
theorem c_are_integers (a : All K mg) : Callee P w K mg base 2 "are_integers" ["thing"] SAreInt :=
  mkC a.d_are_integers sc_are_integers fun f cdv A outer s H E hr args hs R hl h => by
    have nd : (["thing", "part"] : List Str).Nodup := by decide
    obtain ⟨l, rfl, hz, r⟩ := h
    refine gss_one (gs_ret ((GE.is (d' := PyData.bool true) (gp_all a.b_all rfl (gp_lcM [("part", 1)] l PyData.int (fun x1 => true) PyData.bool rfl nd (gip_tup (gp_var 0 rfl)) rfl (szl (by first | (simp only [List.length_range, List.length_map, List.length_zipIdx, List.length_zip, List.length_mergeSort, List.length_take, Int.toNat_natCast]; omega) | omega | assumption)) (fun x1 hx1 s1 H1 C1 cl1 fp1 => (gg_name 1 nd ⟨rfl, fun s501 H501 C501 cl501 fp501 => (gp_c (c_is_integer a) (by exact hr) (gap_cons (gp_var 1 rfl) gap_nil) (pF1 (PyData.int x1) trivial))⟩)))) (by simp)).of ?_))
    exact r
abbrev tW (W : List (List Int)) : PyData := .tuple (W.map tI)
def cnt (W : List (List Int)) : CT := (W.map fun x => x.sum, (List.range ((W.getD (0 : Int).toNat default).length : Int).toNat).map fun x => (W.map fun y => (y.getD ((x : Nat) : Int).toNat default)).sum)
/-- a table of 0 and 1 -/
structure Tab (W : List (List Int)) (m n : Nat) : Prop where
  l : W.length = m
  r : ∀ x ∈ W, x.length = n
  e : ∀ x ∈ W, ∀ y ∈ x, y = 0 ∨ y = 1
def SCnt : FS := F1 tW (fun W => ∃ m n, Tab W m n ∧ 1 ≤ m ∧ m ≤ 100 ∧ 1 ≤ n ∧ n ≤ 100) (fun W => cD (cnt W))
theorem c_counts_of (a : All K mg) : Callee P w K mg base 1 "counts_of" ["weave"] SCnt :=
  mkC a.d_counts_of sc_counts_of fun f cdv A outer s H E hr args hs R hl h => by
    have nd : (["weave", "overs", "row", "weft"] : List Str).Nodup := by decide
    obtain ⟨W, rfl, ⟨m, n, tb, hm, hm2, hn, hn2⟩, r⟩ := h
    have h1 := tb.l
    have h0 : (W.getD (0 : Int).toNat default).length = n := by
      have hl : 0 < W.length := by omega
      show (W.getD 0 default).length = n
      rw [List.getD_eq_getElem?_getD, List.getElem?_eq_getElem hl]
      exact tb.r _ (List.getElem_mem hl)
    have hrow : ∀ j : Nat, j ∈ List.range ((W.getD (0 : Int).toNat default).length : Int).toNat → ∀ y ∈ W, ((j : Nat) : Int) < y.length := by
      intro j hj y hy
      rw [List.mem_range] at hj
      rw [tb.r y hy]
      omega
    refine gss_cons (gs_set 1 nd (((gp_tuple a.b_tuple (gp_lcM [("row", 2)] W (fun x : (List Int) => (.tuple (x.map PyData.int))) (fun x1 => x1.sum) PyData.int rfl nd (gip_tup (gp_var 0 rfl)) rfl (szl (by first | (simp only [List.length_range, List.length_map, List.length_zipIdx, List.length_zip, List.length_mergeSort, List.length_take, Int.toNat_natCast]; omega) | omega | assumption)) (fun x1 hx1 s1 H1 C1 cl1 fp1 => (gg_name 2 nd ⟨rfl, fun s501 H501 C501 cl501 fp501 => (gp_sumT a.b_sum rfl (gp_var 2 rfl))⟩))))).of ?_))
    refine gss_one (gs_ret (((gp_tup (gap_cons (gp_var 1 rfl) (gap_cons (gp_tuple a.b_tuple (gp_lcM [("weft", 3)] (List.range (((W.getD ((0 : Int)).toNat default).length : Int)).toNat) (fun k : Nat => PyData.int (k : Int)) (fun x2 => (W.map fun x3 => (x3.getD (((x2 : Nat) : Int)).toNat default)).sum) PyData.int rfl nd (gip_rng1 a.b_range (gp_lenTm a.b_len (gp_atT (f := (fun x : (List Int) => (.tuple (x.map PyData.int)))) (gp_var 0 rfl) gp_int (by first | assumption | omega | exact hrow _ (by assumption) _ (by assumption)) (by first | assumption | omega | exact hrow _ (by assumption) _ (by assumption)))) ⟨(by first | omega | assumption), (by first | omega | assumption)⟩) (intR0 _) (szl (by first | (simp only [List.length_range, List.length_map, List.length_zipIdx, List.length_zip, List.length_mergeSort, List.length_take, Int.toNat_natCast]; omega) | omega | assumption)) (fun x2 hx2 s2 H2 C2 cl2 fp2 => (gg_name 3 nd ⟨rfl, fun s502 H502 C502 cl502 fp502 => (gp_sumL a.b_sum rfl (gp_lcM [("row", 2)] W (fun x : (List Int) => (.tuple (x.map PyData.int))) (fun x3 => (x3.getD (((x2 : Nat) : Int)).toNat default)) PyData.int rfl nd (gip_tup (gp_var 0 rfl)) rfl (szl (by first | (simp only [List.length_range, List.length_map, List.length_zipIdx, List.length_zip, List.length_mergeSort, List.length_take, Int.toNat_natCast]; omega) | omega | assumption)) (fun x3 hx3 s3 H3 C3 cl3 fp3 => (gg_name 2 nd ⟨rfl, fun s503 H503 C503 cl503 fp503 => (gp_atT (f := PyData.int) (gp_var 2 rfl) (gp_var 3 rfl) (by first | assumption | omega | exact hrow _ (by assumption) _ (by assumption)) (by first | assumption | omega | exact hrow _ (by assumption) _ (by assumption)))⟩))))⟩)))) gap_nil)))).of ?_))
    exact r
def SDE : FS := F1 PyData.int (fun _ => True) (fun d => .bool (decide (d ∈ [(0 : Int), 1])))
theorem c_is_drawn_entry (a : All K mg) : Callee P w K mg base 2 "is_drawn_entry" ["thing"] SDE :=
  mkC a.d_is_drawn_entry sc_is_drawn_entry fun f cdv A outer s H E hr args hs R hl h => by
    have nd : (["thing"] : List Str).Nodup := by decide
    obtain ⟨t, rfl, -, r⟩ := h
    refine gss_one (gs_ret (((gp_and (gp_c (c_is_integer a) hr (gap_cons (gp_var 0 rfl) gap_nil) (pF1 (PyData.int t) trivial)) (fun hq1 => (gp_one (gp_cmp (gp_var 0 rfl) (gp_tup (gap_cons gp_int (gap_cons gp_int gap_nil))) (q_inT hr (α := Int) t [(0 : Int), (1 : Int)])))))).of ?_))
    exact r
def STab : FS := fun args hs R => ∃ W m n b, args = [.d (tW W), .d (.int (m : Nat)), .d (.int (n : Nat)), .d (.bool b)] ∧ Tab W m n ∧ m ≤ 100 ∧ n ≤ 100 ∧ R (.d (.bool true)) hs
theorem c_is_table (a : All K mg) : Callee P w K mg base 3 "is_table" ["thing", "warps", "wefts", "let"] STab :=
  mkC a.d_is_table sc_is_table fun f cdv A outer s H E hr args hs R hl h => by
    have nd : (["thing", "warps", "wefts", "let", "row", "entry"] : List Str).Nodup := by decide
    obtain ⟨W, m, n, b, rfl, tb, hm, hn, r⟩ := h
    refine gss_cons (gs_if ((GT.is (d' := false) (gwp_or (gtp_not (gtp_val (gp_isTuple a.b_isinstance a.b_tuple (gp_var 0 rfl)))) (fun hq1 => (gwp_or1 (gtp_cmp (gp_lenTm a.b_len (gp_var 0 rfl)) (gp_var 1 rfl) c_neI)))).gt (by simp [tb.l])).of ⟨fun h => (nomatch h), fun _ => gss_nil ?_⟩))
    refine gss_cons (gs_forT [4] (W) (fun x : (List Int) => (.tuple (x.map PyData.int))) (fun t : Unit => ([some (.d (tW W)), some (.d (.int (m : Nat))), some (.d (.int (n : Nat))), some (.d (.bool b)), none, none] : Sl)) (fun t : Unit => (hs : Hs)) (fun i t => True) () pown rfl (gip_tup (gp_var 0 rfl)) rfl ?_ (by repeat (first | exact Wk.refl _ | exact Wk.nil | apply Wk.keep | apply Wk.drop)) rfl ?_ ?_)
    · trivial
    · intro i x t hx hJ
      have hxm := List.mem_of_getElem? hx
      have hxl := tb.r x hxm
      have hxe := tb.e x hxm
      refine (gg_name 4 nd ?_)
      refine gss_cons (gs_if ((GT.is (d' := false) (gwp_or (gtp_not (gtp_val (gp_isTuple a.b_isinstance a.b_tuple (gp_var 4 rfl)))) (fun hq2 => (gwp_or1 (gtp_cmp (gp_lenTm a.b_len (gp_var 4 rfl)) (gp_var 2 rfl) c_neI)))).gt (by simp [hxl])).of ⟨fun h => (nomatch h), fun _ => gss_nil ?_⟩))
      refine gss_one (gs_if ((GT.is (d' := false) (gtp_not (gtp_val (gp_all a.b_all rfl (gp_lcM [("entry", 5)] x PyData.int (fun x3 => ((decide (x3 ∈ [(0 : Int), 1])) || (b && (isN (.int x3))))) PyData.bool rfl nd (gip_tup (gp_var 4 rfl)) rfl (szl (by first | (simp only [List.length_range, List.length_map, List.length_zipIdx, List.length_zip, List.length_mergeSort, List.length_take, Int.toNat_natCast]; omega) | omega | assumption)) (fun x3 hx3 s3 H3 C3 cl3 fp3 => (gg_name 5 nd ⟨rfl, fun s503 H503 C503 cl503 fp503 => (gp_or (gp_c (c_is_drawn_entry a) (by exact hr) (gap_cons (gp_var 5 rfl) gap_nil) (pF1 x3 trivial)) (fun hq4 => (gp_one (gp_and (gp_var 3 rfl) (fun hq5 => (gp_one (gp_cmp (gp_var 5 rfl) gp_non c_isN)))))))⟩)))))) (by simp; intro y hy; rcases hxe y hy with e | e <;> simp [e])).of ⟨fun h => (nomatch h), fun _ => gss_nil ?_⟩))
      exact ⟨(), trivial, (by repeat (first | exact Wk.refl _ | exact Wk.nil | apply Wk.keep | apply Wk.drop)), rfl⟩
    · intro t hJ
      refine gss_one (gs_ret ((gp_bl).of ?_))
      exact r
def SLow : FS := fun args hs R => ∃ c, args = [.d (cD c)] ∧ Ck c ∧ (∀ m o : Int, 0 ≤ m → m ≤ c.1.length → 0 ≤ o → o ≤ c.2.length → bal c m o < 0 → R (.d (.tuple [.int m, .int o])) hs) ∧ ((∀ m o : Int, 0 ≤ m → m ≤ c.1.length → 0 ≤ o → o ≤ c.2.length → 0 ≤ bal c m o) → R (.d .none) hs)
theorem c_low_place (a : All K mg) : Callee P w K mg base 2 "low_place" ["counts"] SLow :=
  mkC a.d_low_place sc_low_place fun f cdv A outer s H E hr args hs R hl h => by
    have nd : (["counts", "many", "other"] : List Str).Nodup := by decide
    obtain ⟨c, rfl, hc, r1, r2⟩ := h
    have h1 := hc.m1
    have h2 := hc.m2
    refine gss_cons (gs_forT [1] ((List.range (((c.1.length : Int) + (1 : Int))).toNat)) (fun k : Nat => PyData.int (k : Int)) (fun t : Unit => ([some (.d (cD c)), none, none] : Sl)) (fun t : Unit => (hs : Hs)) (fun i t => ∀ m o : Int, 0 ≤ m → m < (i : Int) → 0 ≤ o → o ≤ c.2.length → 0 ≤ bal c m o) () pown rfl (gip_rng1 a.b_range (gp_bin (gp_lenTm a.b_len (gp_ix (gp_var 0 rfl) gp_int (s_tup rfl))) gp_int b_add) ⟨(by first | omega | assumption), (by first | omega | assumption)⟩) (intR0 _) ?_ (by repeat (first | exact Wk.refl _ | exact Wk.nil | apply Wk.keep | apply Wk.drop)) rfl ?_ ?_)
    · intros; omega
    · intro i x t hx hJ
      obtain ⟨rfl, hlt⟩ := rng_get hx
      refine (gg_name 1 nd ?_)
      refine gss_one (gs_forT [2] ((List.range (((c.2.length : Int) + (1 : Int))).toNat)) (fun k : Nat => PyData.int (k : Int)) (fun u : Unit => ([some (.d (cD c)), some (.d (.int (i : Int))), none] : Sl)) (fun u : Unit => (hs : Hs)) (fun j u => ∀ o : Int, 0 ≤ o → o < (j : Int) → 0 ≤ bal c (i : Int) o) () pown rfl (gip_rng1 a.b_range (gp_bin (gp_lenTm a.b_len (gp_ix (gp_var 0 rfl) gp_int (s_tup rfl))) gp_int b_add) ⟨(by first | omega | assumption), (by first | omega | assumption)⟩) (intR0 _) ?_ (by repeat (first | exact Wk.refl _ | exact Wk.nil | apply Wk.keep | apply Wk.drop)) rfl ?_ ?_)
      · intros; omega
      · intro j y u hy hJ
        obtain ⟨rfl, hlt2⟩ := rng_get hy
        refine (gg_name 2 nd ?_)
        refine gss_one (gs_if (((gtp_cmp (gp_c (c_balance_at a) (by exact hr) (gap_cons (gp_var 0 rfl) (gap_cons (gp_var 1 rfl) (gap_cons (gp_var 2 rfl) gap_nil))) (pF3 c (i : Int) (j : Int) (by refine ⟨?_, ?_, ?_, ?_, ?_⟩ <;> first | assumption | omega))) gp_int c_lt)).of ⟨fun hb => ?_, fun hb => ?_⟩))
        · rw [decide_eq_true_eq] at hb
          refine gss_one (gs_ret (((gp_tup (gap_cons (gp_var 1 rfl) (gap_cons (gp_var 2 rfl) gap_nil)))).of ?_))
          exact r1 _ _ (by omega) (by omega) (by omega) (by omega) hb
        · rw [decide_eq_false_iff_not] at hb
          refine gss_nil ⟨(), fun o h3 h4 => ?_, (by repeat (first | exact Wk.refl _ | exact Wk.nil | apply Wk.keep | apply Wk.drop)), rfl⟩
          by_cases e : o = j
          · subst e; omega
          · exact hJ o h3 (by omega)
      · intro u hJ
        refine ⟨(), fun m o h3 h4 h5 h6 => ?_, (by repeat (first | exact Wk.refl _ | exact Wk.nil | apply Wk.keep | apply Wk.drop)), rfl⟩
        by_cases e : m = i
        · subst e; exact hJ o h5 (by simp; omega)
        · exact (by assumption : ∀ m o : Int, 0 ≤ m → m < (i : Int) → 0 ≤ o → o ≤ c.2.length → 0 ≤ bal c m o) m o h3 (by omega) h5 h6
    · intro t hJ
      refine gss_one (gs_ret ((gp_non).of ?_))
      exact r2 fun m o h3 h4 h5 h6 => hJ m o h3 (by simp; omega) h5 h6
def rbn (ov : Int) (lf : (List Int)) : (List Int) := ((List.range ((lf.length : Int)).toNat).map fun x3 => (if (decide (((x3 : Nat) : Int) ∈ (((((lf.zipIdx).map fun x1 => ((-x1.1), ((x1.2 : Nat) : Int))).mergeSort (dataLe false (fun x : (Int × Int) => (.tuple [(.int x.1), (.int x.2)])))).take (ov).toNat).map fun x2 => x2.2))) then 1 else 0))
def S_row_by_need : FS := F2 (PyData.int) ((fun x : (List Int) => (.list (x.map PyData.int)))) (fun ov lf => 0 ≤ ov ∧ lf.length ≤ 100) (fun ov lf => (.tuple ((rbn ov lf).map PyData.int)))
theorem c_row_by_need (a : All K mg) : Callee P w K mg base 1 "row_by_need" ["over", "left"] S_row_by_need :=
  mkC a.d_row_by_need sc_row_by_need fun f cdv A outer s H E hr args hs R hl h => by
    have nd : (["over", "left", "order", "chosen", "weft", "need", "_"] : List Str).Nodup := by decide
    obtain ⟨ov, lf, rfl, hpre, r⟩ := h
    obtain ⟨h0, h1⟩ := hpre
    refine gss_cons (gs_set 2 nd (((gp_sortedL (by exact hr) a.b_sorted (srt_pairs (fun p : Int × Int => p.1) (fun p : Int × Int => p.2) _) (szl (by first | (simp only [List.length_range, List.length_map, List.length_zipIdx, List.length_zip, List.length_mergeSort, List.length_take, Int.toNat_natCast]; omega) | omega | assumption)) (gp_lcM [("weft", 4), ("need", 5)] (lf.zipIdx) (fun p : Int × Nat => PyData.tuple [.int (p.2 : Nat), (.int p.1)]) (fun x1 => ((-x1.1), ((x1.2 : Nat) : Int))) (fun x : (Int × Int) => (.tuple [(.int x.1), (.int x.2)])) rfl nd (gip_enumL a.b_enumerate (gp_var 1 rfl)) (enums_map _ _) (szl (by first | (simp only [List.length_range, List.length_map, List.length_zipIdx, List.length_zip, List.length_mergeSort, List.length_take, Int.toNat_natCast]; omega) | omega | assumption)) (fun x1 hx1 s1 H1 C1 cl1 fp1 => (gg_tup rfl (ggs_cons (gg_name 4 nd (ggs_cons (gg_name 5 nd (ggs_nil ⟨rfl, fun s501 H501 C501 cl501 fp501 => (gp_tup (gap_cons (gp_neg (gp_var 5 rfl)) (gap_cons (gp_var 4 rfl) gap_nil)))⟩)))))))))).of ?_))
    refine gss_cons (gs_set 3 nd (((gp_lcM [("_", 6), ("weft", 4)] ((((lf.zipIdx).map fun x1 => ((-x1.1), ((x1.2 : Nat) : Int))).mergeSort (dataLe false (fun x : (Int × Int) => (.tuple [(.int x.1), (.int x.2)])))).take (ov).toNat) (fun x : (Int × Int) => (.tuple [(.int x.1), (.int x.2)])) (fun x2 => x2.2) PyData.int rfl nd (gip_lst (gp_toL (gp_var 2 rfl) (gp_var 0 rfl) (by first | assumption | omega | (simp only [List.length_set, List.length_append, List.length_cons, List.length_nil, List.length_map, List.length_range]; omega)))) rfl (szl (by first | (simp only [List.length_range, List.length_map, List.length_zipIdx, List.length_zip, List.length_mergeSort, List.length_take, Int.toNat_natCast]; omega) | omega | assumption)) (fun x2 hx2 s2 H2 C2 cl2 fp2 => (gg_tup rfl (ggs_cons (gg_name 6 nd (ggs_cons (gg_name 4 nd (ggs_nil ⟨rfl, fun s502 H502 C502 cl502 fp502 => (gp_var 4 rfl)⟩))))))))).of ?_))
    refine gss_one (gs_ret (((gp_tuple a.b_tuple (gp_lcM [("weft", 4)] (List.range ((lf.length : Int)).toNat) (fun k : Nat => PyData.int (k : Int)) (fun x3 => (if (decide (((x3 : Nat) : Int) ∈ (((((lf.zipIdx).map fun x1 => ((-x1.1), ((x1.2 : Nat) : Int))).mergeSort (dataLe false (fun x : (Int × Int) => (.tuple [(.int x.1), (.int x.2)])))).take (ov).toNat).map fun x2 => x2.2))) then 1 else 0)) PyData.int rfl nd (gip_rng1 a.b_range (gp_lenLm a.b_len (gp_var 1 rfl)) ⟨(by first | omega | assumption), (by first | omega | assumption)⟩) (intR0 _) (szl (by first | (simp only [List.length_range, List.length_map, List.length_zipIdx, List.length_zip, List.length_mergeSort, List.length_take, Int.toNat_natCast]; omega) | omega | assumption)) (fun x3 hx3 s3 H3 C3 cl3 fp3 => (gg_name 4 nd ⟨rfl, fun s503 H503 C503 cl503 fp503 => (gp_intB a.b_int (gp_cmp (gp_var 4 rfl) (gp_var 3 rfl) (q_inL hr (α := Int) ((x3 : Nat) : Int) (((((lf.zipIdx).map fun x1 => ((-x1.1), ((x1.2 : Nat) : Int))).mergeSort (dataLe false (fun x : (Int × Int) => (.tuple [(.int x.1), (.int x.2)])))).take (ov).toNat).map fun x2 => x2.2))))⟩))))).of ?_))
    exact r
theorem rbn_len (o : Int) (lf : List Int) : (rbn o lf).length = lf.length := by
  unfold rbn
  rw [List.length_map, List.length_range]
  simp
theorem rbn_01 (o : Int) (lf : List Int) : ∀ y ∈ rbn o lf, y = 0 ∨ y = 1 := by
  intro y hy
  unfold rbn at hy
  obtain ⟨x, _, rfl⟩ := List.mem_map.mp hy
  split
  · exact .inr rfl
  · exact .inl rfl
def lessR (lf r : List Int) : List Int := (lf.zip r).map fun x => x.1 - x.2
theorem lessR_len (lf r : List Int) (h : r.length = lf.length) : (lessR lf r).length = lf.length := by
  unfold lessR
  rw [List.length_map, List.length_zip, h]
  exact Nat.min_self _
def sw : List Int → List Int → List (List Int)
  | [], _ => []
  | o :: os, lf => rbn o lf :: sw os (lessR lf (rbn o lf))
theorem sw_len : ∀ (os lf : List Int), (sw os lf).length = os.length
  | [], _ => rfl
  | o :: os, lf => by rw [sw, List.length_cons, List.length_cons, sw_len os]
theorem sw_row : ∀ (os lf : List Int), ∀ x ∈ sw os lf, x.length = lf.length ∧ ∀ y ∈ x, y = 0 ∨ y = 1
  | [], _, x, h => nomatch h
  | o :: os, lf, x, h => by
    rw [sw, List.mem_cons] at h
    rcases h with rfl | h
    · exact ⟨rbn_len o lf, rbn_01 o lf⟩
    · obtain ⟨a, b⟩ := sw_row os _ x h
      exact ⟨a.trans (lessR_len _ _ (rbn_len o lf)), b⟩
theorem sw_tab (c : CT) : Tab (sw c.1 c.2) c.1.length c.2.length := ⟨sw_len _ _, fun x h => (sw_row _ _ x h).1, fun x h => (sw_row _ _ x h).2⟩
def SSW : FS := F1 cD (fun c => Ck c ∧ ∀ x ∈ c.1, 0 ≤ x) (fun c => tW (sw c.1 c.2))
theorem c_some_weave (a : All K mg) : Callee P w K mg base 2 "some_weave" ["counts"] SSW :=
  mkC a.d_some_weave sc_some_weave fun f cdv A outer s H E hr args hs R hl h => by
    have nd : (["counts", "left", "rows", "over", "row", "need", "entry"] : List Str).Nodup := by decide
    obtain ⟨c, rfl, ⟨hc, hov⟩, r⟩ := h
    have h1 := hc.m1
    have h2 := hc.m2
    refine gss_cons (gs_set 1 nd (((gp_listT a.b_list (gp_ix (gp_var 0 rfl) gp_int (s_tup rfl)))).of ?_))
    refine gss_cons (gs_set 2 nd (ge_new (ga_nil ⟨Nat.zero_le _, fun p => ?_⟩)))
    refine gss_cons (gs_forT [3] (c.1) PyData.int (fun t : List Int × List (List Int) => ([some (.d (cD c)), some (.d (.list (t.1.map .int))), some (.r p), none, none, none, none] : Sl)) (fun t : List Int × List (List Int) => ((p, .lst ((t.2.map tI).map .d)) :: hs : Hs)) (fun i t => t.1.length = c.2.length ∧ t.2.length = i ∧ sw c.1 c.2 = t.2 ++ sw (c.1.drop i) t.1) (c.2, []) pown rfl (gip_tup (gp_ix (gp_var 0 rfl) gp_int (s_tup rfl))) rfl ?_ (by repeat (first | exact Wk.refl _ | exact Wk.nil | apply Wk.keep | apply Wk.drop)) rfl ?_ ?_)
    · exact ⟨rfl, rfl, rfl⟩
    · intro i x t hx hJ
      obtain ⟨q1, q2, q3⟩ := hJ
      have hx0 : 0 ≤ x := hov x (List.mem_of_getElem? hx)
      have q4 : t.1.length ≤ 100 := by omega
      have q5 : sw c.1 c.2 = (t.2 ++ [rbn x t.1]) ++ sw (c.1.drop (i + 1)) (lessR t.1 (rbn x t.1)) := by
        obtain ⟨hlt, hxe⟩ := List.getElem?_eq_some_iff.mp hx
        rw [q3, List.drop_eq_getElem_cons hlt, hxe, sw, List.append_assoc]
        rfl
      have q6 : t.2.length < 100 := by
        have := (List.getElem?_eq_some_iff.mp hx).1
        omega
      refine (gg_name 3 nd ?_)
      refine gss_cons (gs_set 4 nd (((gp_c (c_row_by_need a) (by exact hr) (gap_cons (gp_var 3 rfl) (gap_cons (gp_var 1 rfl) gap_nil)) (pF2 x t.1 (by refine ⟨?_, ?_⟩ <;> first | assumption | omega)))).of ?_))
      refine gss_cons (GLc.putP (lp_lcM [("need", 5), ("entry", 6)] (t.1.zip (rbn x t.1)) (fun p : Int × Int => PyData.tuple [(.int p.1), (.int p.2)]) (fun x1 => (x1.1 - x1.2)) PyData.int rfl nd (gip_zip false true a.b_zip (gp_var 1 rfl) (gp_var 4 rfl)) (zips_map _ _ _ _) (szl (by first | (simp only [List.length_range, List.length_map, List.length_zipIdx, List.length_zip, List.length_mergeSort, List.length_take, Int.toNat_natCast]; omega) | omega | assumption)) (fun x1 hx1 s1 H1 C1 cl1 fp1 => (gg_tup rfl (ggs_cons (gg_name 5 nd (ggs_cons (gg_name 6 nd (ggs_nil ⟨rfl, fun s501 H501 C501 cl501 fp501 => (gp_bin (gp_var 5 rfl) (gp_var 6 rfl) b_sub)⟩)))))))) 1 ?_)
      refine gss_one (gs_expr (ge_append (ge_var 2 rfl ⟨p, _, rfl, List.mem_cons_self, (gp_var 4 rfl).of ⟨_, _, .here, ?_, ?_⟩⟩)))
      · rw [List.length_map, List.length_map]
        exact Nat.lt_of_lt_of_le q6 (by decide)
      · refine ⟨(lessR t.1 (rbn x t.1), t.2 ++ [rbn x t.1]), ⟨?_, ?_, q5⟩, (by repeat (first | exact Wk.refl _ | exact Wk.nil | apply Wk.keep | apply Wk.drop)), ?_⟩
        · exact (lessR_len _ _ (rbn_len x t.1)).trans q1
        · rw [List.length_append, q2]; rfl
        · rw [List.map_append, List.map_append]; rfl
    · intro t hJ
      obtain ⟨q1, q2, q3⟩ := hJ
      rw [List.drop_length, sw, List.append_nil] at q3
      refine GSs.freeze (ds := t.2.map tI) 2 ?_ rfl .here
      refine gss_one (gs_ret (((gp_tuple a.b_tuple (gp_var 2 rfl))).of ?_))
      rw [← q3]; exact r
/-- what weave_answer answers -/
def SWA : FS := fun args hs R => ∃ c, args = [.d (cD c)] ∧ (Ck c ∧ ∀ x ∈ c.1, 0 ≤ x) ∧
  (c.1.sum ≠ c.2.sum → R (.d (.tuple [.str "sums", .int c.1.sum, .int c.2.sum])) hs) ∧
  (c.1.sum = c.2.sum → ∀ m o : Int, 0 ≤ m → m ≤ c.1.length → 0 ≤ o → o ≤ c.2.length → bal c m o < 0 → R (.d (.tuple [.str "balance", .int m, .int o])) hs) ∧
  (c.1.sum = c.2.sum → (∀ m o : Int, 0 ≤ m → m ≤ c.1.length → 0 ≤ o → o ≤ c.2.length → 0 ≤ bal c m o) → R (.d (.tuple [.str "weave", tW (sw c.1 c.2)])) hs)
theorem c_weave_answer (a : All K mg) : Callee P w K mg base 3 "weave_answer" ["counts"] SWA :=
  mkC a.d_weave_answer sc_weave_answer fun f cdv A outer s H E hr args hs R hl h => by
    have nd : (["counts", "place"] : List Str).Nodup := by decide
    obtain ⟨c, rfl, ⟨hc, hov⟩, r1, r2, r3⟩ := h
    refine gss_cons (gs_if (((gtp_cmp (gp_sumT a.b_sum rfl (gp_ix (gp_var 0 rfl) gp_int (s_tup rfl))) (gp_sumT a.b_sum rfl (gp_ix (gp_var 0 rfl) gp_int (s_tup rfl))) c_neI)).of ⟨fun hb => ?_, fun hb => ?_⟩))
    · have hb : c.1.sum ≠ c.2.sum := by simpa using hb
      refine gss_one (gs_ret (((gp_tup (gap_cons gp_str (gap_cons (gp_sumT a.b_sum rfl (gp_ix (gp_var 0 rfl) gp_int (s_tup rfl))) (gap_cons (gp_sumT a.b_sum rfl (gp_ix (gp_var 0 rfl) gp_int (s_tup rfl))) gap_nil))))).of ?_))
      exact r1 hb
    · have hb : c.1.sum = c.2.sum := by simpa using hb
      refine gss_nil ?_
      refine gss_cons (gs_set 1 nd (ge_c0 (c_low_place a) hr (ga_cons (gp_var 0 rfl |>.of (ga_nil ⟨rfl, c, rfl, hc, fun m o h3 h4 h5 h6 h7 => ?_, fun hall => ?_⟩)))))
      · skip
        refine gss_cons (gs_if ((GT.is (d' := true) (gtp_cmp (gp_var 1 rfl) gp_non c_notN) (by simp)).of ⟨fun _ => ?_, fun h => (nomatch h)⟩))
        refine gss_one (gs_ret (((gp_tup (gap_cons gp_str (gap_cons (gp_ix (gp_var 1 rfl) gp_int (s_tup rfl)) (gap_cons (gp_ix (gp_var 1 rfl) gp_int (s_tup rfl)) gap_nil))))).of ?_))
        exact r2 hb m o h3 h4 h5 h6 h7
      · skip
        refine gss_cons (gs_if ((GT.is (d' := false) (gtp_cmp (gp_var 1 rfl) gp_non c_notN) (by simp)).of ⟨fun h => (nomatch h), fun _ => gss_nil ?_⟩))
        refine gss_one (gs_ret (((gp_tup (gap_cons gp_str (gap_cons (gp_c (c_some_weave a) (by exact hr) (gap_cons (gp_var 0 rfl) gap_nil) (pF1 c (by refine ⟨?_, ?_⟩ <;> first | assumption | omega))) gap_nil)))).of ?_))
        exact r3 hb hall
def SHas : FS := fun args hs R => ∃ c W, args = [.d (cD c), .d (tW W)] ∧ Ck c ∧ Tab W c.1.length c.2.length ∧ R (.d (.bool (decide (cnt W = c)))) hs
theorem c_has_counts (a : All K mg) : Callee P w K mg base 4 "has_counts" ["counts", "thing"] SHas :=
  mkC a.d_has_counts sc_has_counts fun f cdv A outer s H E hr args hs R hl h => by
    have nd : (["counts", "thing"] : List Str).Nodup := by decide
    obtain ⟨c, W, rfl, hc, tb, r⟩ := h
    have l1 := hc.l1
    have l2 := hc.l2
    have h1 := hc.m1
    have h2 := hc.m2
    refine gss_one (gs_ret (((gp_and (gp_c (c_is_table a) (by exact hr) (gap_cons (gp_var 1 rfl) (gap_cons (gp_lenTm a.b_len (gp_ix (gp_var 0 rfl) gp_int (s_tup rfl))) (gap_cons (gp_lenTm a.b_len (gp_ix (gp_var 0 rfl) gp_int (s_tup rfl))) (gap_cons gp_bl gap_nil)))) (fun R r => ⟨W, c.1.length, c.2.length, false, rfl, tb, h1, h2, r⟩)) (fun hq1 => (gp_one (gp_cmp (gp_c (c_counts_of a) (by exact hr) (gap_cons (gp_var 1 rfl) gap_nil) (pF1 W ⟨_, _, tb, l1, h1, l2, h2⟩)) (gp_var 0 rfl) (q_eq hr (α := ((List Int) × (List Int))) (cnt W) c)))))).of ?_))
    exact r
def isw (c : CT) (s : Str) (i j : Int) : Bool := if c.1.sum = c.2.sum then decide (s = "balance") && (decide (0 ≤ i) && decide (i ≤ c.1.length)) && (decide (0 ≤ j) && decide (j ≤ c.2.length)) && decide (bal c i j < 0) else decide (s = "sums") && decide ((i, j) = (c.1.sum, c.2.sum))
def SIWA : FS := fun args hs R => ∃ c, Ck c ∧ ((∃ W, args = [.d (cD c), .d (.tuple [.str "weave", tW W])] ∧ Tab W c.1.length c.2.length ∧ R (.d (.bool (decide (cnt W = c)))) hs) ∨
  (∃ s i j, args = [.d (cD c), .d (.tuple [.str s, .int i, .int j])] ∧ R (.d (.bool (isw c s i j))) hs))
theorem c_is_weave_answer (a : All K mg) : Callee P w K mg base 5 "is_weave_answer" ["counts", "thing"] SIWA :=
  mkC a.d_is_weave_answer sc_is_weave_answer fun f cdv A outer s H E hr args hs R hl h => by
    have nd : (["counts", "thing", "sums"] : List Str).Nodup := by decide
    obtain ⟨c, hc, h⟩ := h
    have l1 := hc.l1
    have l2 := hc.l2
    have h1 := hc.m1
    have h2 := hc.m2
    rcases h with ⟨W, rfl, tb, r⟩ | ⟨s0, i, j, rfl, r⟩
    · skip
      refine gss_cons (gs_if ((GT.is (d' := true) (gtp_val (gp_c (c_tuple_of a) (by exact hr) (gap_cons (gp_var 1 rfl) (gap_cons gp_int gap_nil)) (pF2 (.tuple [(.str ("weave" : Str)), (.tuple (W.map (fun x : (List Int) => (.tuple (x.map PyData.int)))))]) (2 : Int) trivial))) (by simp)).of ⟨fun _ => ?_, fun h => (nomatch h)⟩))
      refine gss_one (gs_ret ((GE.is (d' := PyData.bool (decide (cnt W = c))) (gp_and (gp_cmp (gp_ix (gp_var 1 rfl) gp_int (s_tup rfl)) gp_str c_eqS) (fun hq1 => (gp_one (gp_c (c_has_counts a) (by exact hr) (gap_cons (gp_var 0 rfl) (gap_cons (gp_ix (gp_var 1 rfl) gp_int (s_tup rfl)) gap_nil)) (fun R r => ⟨c, W, rfl, hc, tb, r⟩))))) (by simp)).of ?_))
      exact r
    · skip
      refine gss_cons (gs_if ((GT.is (d' := false) (gtp_val (gp_c (c_tuple_of a) (by exact hr) (gap_cons (gp_var 1 rfl) (gap_cons gp_int gap_nil)) (pF2 (.tuple [(.str s0), (.int i), (.int j)]) (2 : Int) trivial))) (by simp)).of ⟨fun h => (nomatch h), fun _ => gss_nil ?_⟩))
      refine gss_cons (gs_if ((GT.is (d' := false) (gwp_or (gtp_not (gtp_val (gp_c (c_tuple_of a) (by exact hr) (gap_cons (gp_var 1 rfl) (gap_cons gp_int gap_nil)) (pF2 (.tuple [(.str s0), (.int i), (.int j)]) (3 : Int) trivial)))) (fun hq2 => (gwp_or1 (gtp_not (gtp_val (gp_c (c_are_integers a) hr (gap_cons (gp_fromP (ds' := [.int i, .int j]) (gp_var 1 rfl) gp_int rfl) gap_nil) (pF1 [i, j] (Nat.le_of_ble_eq_true rfl)))))))).gt (by simp)).of ⟨fun h => (nomatch h), fun _ => gss_nil ?_⟩))
      refine gss_cons (gs_set 2 nd (((gp_tup (gap_cons (gp_sumT a.b_sum rfl (gp_ix (gp_var 0 rfl) gp_int (s_tup rfl))) (gap_cons (gp_sumT a.b_sum rfl (gp_ix (gp_var 0 rfl) gp_int (s_tup rfl))) gap_nil)))).of ?_))
      refine gss_cons (gs_if (((gtp_cmp (gp_ix (gp_var 2 rfl) gp_int (s_tup rfl)) (gp_ix (gp_var 2 rfl) gp_int (s_tup rfl)) c_neI)).of ⟨fun hb => ?_, fun hb => ?_⟩))
      · have hb : c.1.sum ≠ c.2.sum := by simpa using hb
        refine gss_one (gs_ret ((GE.is (d' := PyData.bool (isw c s0 i j)) (gp_and (gp_cmp (gp_ix (gp_var 1 rfl) gp_int (s_tup rfl)) gp_str c_eqS) (fun hq3 => (gp_one (gp_cmp (gp_fromP (ds' := [(.int i), (.int j)]) (gp_var 1 rfl) gp_int rfl) (gp_var 2 rfl) (q_eq hr (α := (Int × Int)) (i, j) (c.1.sum, c.2.sum)))))) (by rw [isw, if_neg hb])).of ?_))
        exact r
      · have hb : c.1.sum = c.2.sum := by simpa using hb
        refine gss_nil ?_
        refine gss_cons (gs_if (((gwp_or (gtp_cmp (gp_ix (gp_var 1 rfl) gp_int (s_tup rfl)) gp_str c_neS) (fun hq4 => (gwp_or1 (gtp_not (gtp_val (gp_c (c_integer_within a) (by exact hr) (gap_cons (gp_ix (gp_var 1 rfl) gp_int (s_tup rfl)) (gap_cons gp_int (gap_cons (gp_lenTm a.b_len (gp_ix (gp_var 0 rfl) gp_int (s_tup rfl))) gap_nil))) (pF3 i (0 : Int) (c.1.length : Int) trivial))))))).gt).of ⟨fun hd => ?_, fun hd => ?_⟩))
        · have e : isw c s0 i j = false := by
            rw [isw, if_pos hb]
            simp only [Bool.or_eq_true, Bool.not_eq_true', decide_eq_false_iff_not] at hd
            rcases hd with hd | hd
            · simp [hd]
            · rw [hd]
              simp
          rw [e] at r
          refine gss_one (gs_ret ((gp_bl).of ?_))
          exact r
        · have hd : s0 = "balance" ∧ 0 ≤ i ∧ i ≤ c.1.length := by simpa [Bool.or_eq_false_iff, Bool.and_eq_true, decide_eq_true_eq] using hd
          refine gss_nil ?_
          refine gss_one (gs_ret ((GE.is (d' := PyData.bool (isw c s0 i j)) (gp_and (gp_c (c_integer_within a) (by exact hr) (gap_cons (gp_ix (gp_var 1 rfl) gp_int (s_tup rfl)) (gap_cons gp_int (gap_cons (gp_lenTm a.b_len (gp_ix (gp_var 0 rfl) gp_int (s_tup rfl))) gap_nil))) (pF3 j (0 : Int) (c.2.length : Int) trivial)) (fun hq3 => (gp_one (gp_cmp (gp_c (c_balance_at a) (by exact hr) (gap_cons (gp_var 0 rfl) (gap_cons (gp_ix (gp_var 1 rfl) gp_int (s_tup rfl)) (gap_cons (gp_ix (gp_var 1 rfl) gp_int (s_tup rfl)) gap_nil))) (pF3 c i j ⟨hc, hd.2.1, by omega, (by simpa using hq3 : 0 ≤ j ∧ j ≤ c.2.length).1, by have := (by simpa using hq3 : 0 ≤ j ∧ j ≤ c.2.length).2; omega⟩)) gp_int c_lt)))) (by rw [isw, if_pos hb]; simp [hd.1, hd.2.1, hd.2.2])).of ?_))
          exact r
abbrev oI (ns : List Int) : OC := ol PyData.int ns
/-- the pool of the law's numbers -/
structure POk (ns : List Int) : Prop where
  l : 1 ≤ ns.length
  m : ns.length ≤ 100
def STake : FS := fun args hs R => ∃ p ns many, args = [.r p, .d (.int many)] ∧ hs = [(p, oI ns)] ∧ POk ns ∧ 0 < many ∧ many < 1073741824 ∧ ∀ k ns', 0 ≤ k → k < many → POk ns' → R (.d (.int k)) [(p, oI ns')]
theorem c_law_take (a : All K mg) : Callee P w K mg base 1 "_law_take" ["pool", "many"] STake :=
  mkC a.d_law_take sc_law_take fun f cdv A outer s H E hr args hs R hl h => by
    have nd : (["pool", "many", "cell"] : List Str).Nodup := by decide
    obtain ⟨p, ns, mn, rfl, rfl, hok, h1, h2, r⟩ := h
    have ol1 := hok.l
    have ol2 := hok.m
    refine gss_cons (gs_if (((gtp_cmp (gp_lenO (f := PyData.int) (l := ns) 0 a.b_len rfl (by first | exact List.mem_cons_self | exact List.mem_cons_of_mem _ List.mem_cons_self | exact List.mem_cons_of_mem _ (List.mem_cons_of_mem _ List.mem_cons_self))) gp_int c_gt)).of ⟨fun hb => ?_, fun hb => ?_⟩))
    · rw [decide_eq_true_eq] at hb
      obtain ⟨ns0, x, rfl⟩ : ∃ ns0 x, ns = ns0 ++ [x] := ⟨ns.dropLast, ns.getLast (by intro e; rw [e] at hb; simp at hb), (List.dropLast_concat_getLast _).symm⟩
      rw [List.length_append, List.length_singleton] at hb ol2
      rw [oI, ol_app]
      refine gss_cons (gs_set 2 nd (ge_int1 a.b_int (ge_pop (ge_var 0 rfl ⟨p, _, _, _, rfl, .here, x, rfl, ?_⟩))))
      show GSs _ _ _ [(p, ol PyData.int ns0)] _
      refine gss_cons (gs_if (((gtp_cmp (gp_var 2 rfl) (gp_var 1 rfl) c_ge)).of ⟨fun hd => ?_, fun hd => ?_⟩))
      · skip
        refine gss_one (gs_appO (f := PyData.int) (l := ns0) (y := (x / mn)) 0 rfl (gp_bin (gp_var 2 rfl) (gp_var 1 rfl) (b_fdiv (by first | assumption | omega | (simp only [List.length_set, List.length_append, List.length_cons, List.length_nil, List.length_map, List.length_range]; omega)) (by first | assumption | omega | (simp only [List.length_set, List.length_append, List.length_cons, List.length_nil, List.length_map, List.length_range]; omega)))) (by first | exact .here | exact .there .here | exact .there (.there .here) | exact .there (.there (.there .here))) (by first | omega | assumption | (simp only [List.length_set, List.length_append, List.length_cons, List.length_nil, List.length_map, List.length_range]; omega)) ?_)
        refine gss_one (gs_ret (((gp_bin (gp_var 2 rfl) (gp_var 1 rfl) (b_mod (by first | assumption | omega | (simp only [List.length_set, List.length_append, List.length_cons, List.length_nil, List.length_map, List.length_range]; omega))))).of ?_))
        exact r _ _ (Int.emod_nonneg _ (by omega)) (Int.emod_lt_of_pos _ h1) ⟨by simp, by simp; omega⟩
      · refine gss_nil ?_
        refine gss_one (gs_ret (((gp_bin (gp_var 2 rfl) (gp_var 1 rfl) (b_mod (by first | assumption | omega | (simp only [List.length_set, List.length_append, List.length_cons, List.length_nil, List.length_map, List.length_range]; omega))))).of ?_))
        exact r _ _ (Int.emod_nonneg _ (by omega)) (Int.emod_lt_of_pos _ h1) ⟨by omega, by omega⟩
    · refine gss_nil ?_
      refine gss_cons (gs_putO (f := PyData.int) (l := ns) (y := ((((ns.getD ((0 : Int)).toNat default) * (48611 : Int)) + (2819 : Int)) % (2147483497 : Int))) 0 rfl (gp_bin (gp_bin (gp_bin (gp_int1 a.b_int (gp_atO (f := PyData.int) (l := ns) 0 rfl (by first | exact List.mem_cons_self | exact List.mem_cons_of_mem _ List.mem_cons_self | exact List.mem_cons_of_mem _ (List.mem_cons_of_mem _ List.mem_cons_self)) gp_int (by first | assumption | omega | (simp only [List.length_set, List.length_append, List.length_cons, List.length_nil, List.length_map, List.length_range]; omega)) (by first | assumption | omega | (simp only [List.length_set, List.length_append, List.length_cons, List.length_nil, List.length_map, List.length_range]; omega)))) gp_int (b_mul (by first | exact .inl (by omega) | exact .inr (by omega)))) gp_int b_add) gp_int (b_mod (by first | assumption | omega | (simp only [List.length_set, List.length_append, List.length_cons, List.length_nil, List.length_map, List.length_range]; omega)))) gp_int (by first | assumption | omega | (simp only [List.length_set, List.length_append, List.length_cons, List.length_nil, List.length_map, List.length_range]; omega)) (by first | assumption | omega | (simp only [List.length_set, List.length_append, List.length_cons, List.length_nil, List.length_map, List.length_range]; omega)) (by first | exact .here | exact .there .here | exact .there (.there .here) | exact .there (.there (.there .here))) ?_)
      refine gss_one (gs_ret (((gp_bin (gp_int1 a.b_int (gp_bin (gp_atO (f := PyData.int) (l := (ns.set ((0 : Int)).toNat ((((ns.getD ((0 : Int)).toNat default) * (48611 : Int)) + (2819 : Int)) % (2147483497 : Int)))) 0 rfl (by first | exact List.mem_cons_self | exact List.mem_cons_of_mem _ List.mem_cons_self | exact List.mem_cons_of_mem _ (List.mem_cons_of_mem _ List.mem_cons_self)) gp_int (by first | assumption | omega | (simp only [List.length_set, List.length_append, List.length_cons, List.length_nil, List.length_map, List.length_range]; omega)) (by first | assumption | omega | (simp only [List.length_set, List.length_append, List.length_cons, List.length_nil, List.length_map, List.length_range]; omega))) gp_int (b_fdiv (by first | assumption | omega | (simp only [List.length_set, List.length_append, List.length_cons, List.length_nil, List.length_map, List.length_range]; omega)) (by first | assumption | omega | (simp only [List.length_set, List.length_append, List.length_cons, List.length_nil, List.length_map, List.length_range]; omega))))) (gp_var 1 rfl) (b_mod (by first | assumption | omega | (simp only [List.length_set, List.length_append, List.length_cons, List.length_nil, List.length_map, List.length_range]; omega))))).of ?_))
      exact r _ _ (Int.emod_nonneg _ (by omega)) (Int.emod_lt_of_pos _ h1) ⟨by simp; omega, by simp; omega⟩
def SPool : FS := fun args hs R => ∃ nz, args = [.z nz] ∧ hs = [] ∧ ∀ p ns, POk ns → R (.r p) [(p, oI ns)]
theorem big_pos : (0 : Int) < 1 * 2 ^ (2000 : Int).toNat := Int.mul_pos (by decide) (Int.pow_pos (by decide))
theorem c_law_pool (a : All K mg) : Callee P w K mg base 1 "_law_pool" ["script"] SPool :=
  mkC a.d_law_pool sc_law_pool fun f cdv A outer s H E hr args hs R hl h => by
    have nd : (["script", "pool", "cell"] : List Str).Nodup := by decide
    obtain ⟨nz, rfl, rfl, r⟩ := h
    refine gss_cons (gs_set 1 nd (ge_new (ga_cons (gp_int.of (ga_nil ⟨Nat.le_of_ble_eq_true rfl, fun p => ?_⟩)))))
    have hz : (nz.take (63 : Int).toNat).length ≤ 63 := List.length_take_le _ _
    refine gss_cons (gs_forT [2] (nz.take (63 : Int).toNat) PyData.int (fun t : List Int => ([some (.z nz), some (.r p), none] : Sl)) (fun t : List Int => ([(p, oI t)] : Hs)) (fun i t => 1 ≤ t.length ∧ t.length ≤ 1 + i) [650141] pown rfl (gi_script (ge_var 0 rfl ⟨rfl, rfl⟩) (.some gp_int) (by decide) ⟨rfl, rfl⟩) rfl ?_ (by repeat (first | exact Wk.refl _ | exact Wk.nil | apply Wk.keep | apply Wk.drop)) rfl ?_ ?_)
    · exact ⟨Nat.le_refl _, Nat.le_refl _⟩
    · intro i x t hx hJ
      obtain ⟨q1, q2⟩ := hJ
      have hlt := (List.getElem?_eq_some_iff.mp hx).1
      refine (gg_name 2 nd ?_)
      obtain ⟨cv, hcv⟩ : ∃ z : Int, z = ((if x < 0 then -x else x) % ((1 : Int) * 2 ^ ((2000 : Int)).toNat)) := ⟨_, rfl⟩
      refine gss_cons (gs_set 2 nd ((GE.is (d' := (.int cv)) (gp_bin (gp_abs a.b_abs (gp_int1 a.b_int (gp_var 2 rfl))) (gp_bin gp_int gp_int (b_shl ⟨by decide, by decide, by decide⟩)) (b_mod (by first | assumption | exact big_pos | omega | (simp only [List.length_set, List.length_append, List.length_cons, List.length_nil, List.length_map, List.length_range]; omega)))) (by rw [hcv])).of ?_))
      refine gss_cons (gs_putO (f := PyData.int) (l := t) (y := (((((t.getD ((0 : Int)).toNat default) * (30011 : Int)) + (cv % (2147483497 : Int))) + (7283 : Int)) % (2147483497 : Int))) 1 rfl (gp_bin (gp_bin (gp_bin (gp_bin (gp_atO (f := PyData.int) (l := t) 1 rfl (by first | exact List.mem_cons_self | exact List.mem_cons_of_mem _ List.mem_cons_self | exact List.mem_cons_of_mem _ (List.mem_cons_of_mem _ List.mem_cons_self)) gp_int (by first | assumption | exact big_pos | omega | (simp only [List.length_set, List.length_append, List.length_cons, List.length_nil, List.length_map, List.length_range]; omega)) (by first | assumption | exact big_pos | omega | (simp only [List.length_set, List.length_append, List.length_cons, List.length_nil, List.length_map, List.length_range]; omega))) gp_int (b_mul (by first | exact .inl (by omega) | exact .inr (by omega)))) (gp_bin (gp_var 2 rfl) gp_int (b_mod (by first | assumption | exact big_pos | omega | (simp only [List.length_set, List.length_append, List.length_cons, List.length_nil, List.length_map, List.length_range]; omega)))) b_add) gp_int b_add) gp_int (b_mod (by first | assumption | exact big_pos | omega | (simp only [List.length_set, List.length_append, List.length_cons, List.length_nil, List.length_map, List.length_range]; omega)))) gp_int (by first | assumption | exact big_pos | omega | (simp only [List.length_set, List.length_append, List.length_cons, List.length_nil, List.length_map, List.length_range]; omega)) (by first | assumption | exact big_pos | omega | (simp only [List.length_set, List.length_append, List.length_cons, List.length_nil, List.length_map, List.length_range]; omega)) (by first | exact .here | exact .there .here | exact .there (.there .here) | exact .there (.there (.there .here))) ?_)
      refine gss_one (gs_if (((gtp_cmp (gp_var 2 rfl) (gp_bin gp_int gp_int (b_pow ⟨by decide, by decide, by decide⟩)) c_ge)).of ⟨fun hb => ?_, fun hb => ?_⟩))
      · skip
        refine gss_one (gs_appO (f := PyData.int) (l := (t.set ((0 : Int)).toNat (((((t.getD ((0 : Int)).toNat default) * (30011 : Int)) + (cv % (2147483497 : Int))) + (7283 : Int)) % (2147483497 : Int)))) (y := cv) 1 rfl (gp_var 2 rfl) (by first | exact .here | exact .there .here | exact .there (.there .here) | exact .there (.there (.there .here))) (by first | omega | assumption | (simp only [List.length_set, List.length_append, List.length_cons, List.length_nil, List.length_map, List.length_range]; omega)) ?_)
        exact ⟨_, ⟨by simp, by simp; omega⟩, (by repeat (first | exact Wk.refl _ | exact Wk.nil | apply Wk.keep | apply Wk.drop)), rfl⟩
      · refine gss_nil ⟨_, ⟨by simp; omega, by simp; omega⟩, (by repeat (first | exact Wk.refl _ | exact Wk.nil | apply Wk.keep | apply Wk.drop)), rfl⟩
    · intro t hJ
      obtain ⟨q1, q2⟩ := hJ
      exact gss_one (gs_ret (ge_var 1 rfl (r _ _ ⟨q1, by omega⟩)))
def f2 (d : PyData) : PyData := .tuple [d, d]
def SSame : FS := fun args hs R => ∃ d, args = [.d d, .d d] ∧ pla d = true ∧ pz d ≤ 10000 ∧ R (.d (.bool true)) hs
theorem eqv_refl0 (d : PyData) (h : pla d = true) (ht : ∀ l, d ≠ .tuple l) : PyData.eqv d d = true := by
  cases d <;> first | exact absurd rfl (ht _) | (simp [pla] at h; done) | rfl | simp [PyData.eqv]
theorem at_rng {l : List PyData} {x : Nat} (h : x ∈ List.range (l.length : Int).toNat) : atI l (x : Int) = some (l.getD x .none) := by
  rw [List.mem_range, Int.toNat_natCast] at h
  refine at_get (by omega) ?_
  rw [Int.toNat_natCast, List.getElem?_eq_getElem h, List.getD_eq_getElem?_getD, List.getElem?_eq_getElem h]
  rfl
theorem dup_eq (l : List PyData) : PyData.list ((List.range (l.length : Int).toNat).map fun k => f2 (l.getD k .none)) = .list (l.map f2) := by
  congr 1
  rw [Int.toNat_natCast]
  refine List.ext_getElem (by simp) fun i h1 h2 => ?_
  simp only [List.length_map] at h2
  simp only [List.getElem_map, List.getElem_range, List.getD_eq_getElem?_getD, List.getElem?_eq_getElem h2]
  rfl
theorem c_law_same (a : All K mg) : Callee P w K mg base 1 "_law_same" ["told", "due"] SSame :=
  mkC a.d_law_same sc_law_same fun f cdv A outer s H E hr args hs R hl h => by
    have nd : (["told", "due", "rest", "one", "other", "at"] : List Str).Nodup := by decide
    obtain ⟨d0, rfl, hp0, hz0, r⟩ := h
    refine gss_cons (gs_set 2 nd (ge_new (ga_cons ((gp_tup (gap_cons (gp_var 0 rfl) (gap_cons (gp_var 1 rfl) gap_nil))).of (ga_nil ⟨Nat.le_of_ble_eq_true rfl, fun p => ?_⟩)))))
    refine gss_cons (gs_whileT (fun t : List PyData => [some (.d d0), some (.d d0), some (.r p), none, none, none]) (fun t => (p, ol f2 t) :: hs) (fun m t => m = pzs t ∧ plas t = true ∧ pzs t ≤ 10000) (pz d0 + 0) [d0] pown ⟨rfl, by simp [plas, hp0], by simpa [pzs] using hz0⟩ (by repeat (first | exact Wk.refl _ | exact Wk.nil | apply Wk.keep | apply Wk.drop)) rfl ?_)
    rintro m t ⟨rfl, hpl, hsz⟩
    refine (gtp_cmp (gp_lenO (f := f2) (l := t) 2 a.b_len rfl List.mem_cons_self) gp_int c_gt).of ⟨fun hb => ?_, fun hb => ?_⟩
    · rw [decide_eq_true_eq] at hb
      obtain ⟨t0, d, rfl⟩ : ∃ t0 d, t = t0 ++ [d] := ⟨t.dropLast, t.getLast (by intro e; rw [e] at hb; simp at hb), (List.dropLast_concat_getLast _).symm⟩
      rw [plas_app, Bool.and_eq_true] at hpl
      rw [pzs_app] at hsz ⊢
      have hd : pla d = true := by simpa [plas] using hpl.2
      have hd1 := pz_pos d
      have hsz1 : pzs [d] = pz d := by simp [pzs]
      rw [hsz1] at hsz ⊢
      rw [ol_app]
      refine gss_cons (gs_asg (vs := [3, 4]) (ge_pop (ge_var 2 rfl ⟨p, _, _, _, rfl, .here, gg_tup rfl (ggs_cons (gg_name 3 nd (ggs_cons (gg_name 4 nd (ggs_nil ?_)))))⟩)))
      have fin : ∃ m' t', m' < pzs t0 + pz d ∧ (m' = pzs t' ∧ plas t' = true ∧ pzs t' ≤ 10000) ∧ Wk [some (EV.d d0), some (.d d0), some (.r p), some (.d d), some (.d d), none] [some (.d d0), some (.d d0), some (.r p), none, none, none] ∧ (p, ol f2 t0) :: hs = (p, ol f2 t') :: hs := ⟨pzs t0, t0, by omega, ⟨rfl, hpl.1, by omega⟩, (by repeat (first | exact Wk.refl _ | exact Wk.nil | apply Wk.keep | apply Wk.drop)), rfl⟩
      show GSs _ _ _ ((p, ol f2 t0) :: hs) _
      cases d with
      | none =>
        refine gss_one (gs_if ((GT.is (d' := false) (gtp_val (gp_isTuple a.b_isinstance a.b_tuple (gp_var 4 rfl))) (by simp)).of ⟨fun h => (nomatch h), fun _ => ?_⟩))
        refine gss_one (gs_if ((GT.is (d' := true) (gtp_cmp (gp_var 4 rfl) gp_non c_isN) (by simp)).of ⟨fun _ => ?_, fun h => (nomatch h)⟩))
        refine gss_one (gs_if ((GT.is (d' := false) (gtp_cmp (gp_var 3 rfl) gp_non c_notN) (by simp)).of ⟨fun h => (nomatch h), fun _ => gss_nil ?_⟩))
        exact fin
      | bool b =>
        have hu := by have := Asl.Room.u64 hr; exact Nat.lt_of_succ_lt this
        refine gss_one (gs_if ((GT.is (d' := false) (gtp_val (gp_isTuple a.b_isinstance a.b_tuple (gp_var 4 rfl))) (by simp)).of ⟨fun h => (nomatch h), fun _ => ?_⟩))
        refine gss_one (gs_if ((GT.is (d' := false) (gtp_cmp (gp_var 4 rfl) gp_non c_isN) (by simp)).of ⟨fun h => (nomatch h), fun _ => ?_⟩))
        refine gss_one (gs_if ((GT.is (d' := false) (gtp_val (gp_isStr a.b_isinstance a.b_str (gp_var 4 rfl))) (by simp)).of ⟨fun h => (nomatch h), fun _ => ?_⟩))
        refine gss_one (gs_if ((GT.is (d' := true) (gtp_val (gp_isBool a.b_isinstance a.b_bool (gp_var 4 rfl))) (by simp)).of ⟨fun _ => ?_, fun h => (nomatch h)⟩))
        refine gss_one (gs_if ((GT.is (d' := false) (gwp_or (gtp_not (gtp_val (gp_isBool a.b_isinstance a.b_bool (gp_var 3 rfl)))) (fun hq1 => (gwp_or1 (gtp_cmp (gp_var 3 rfl) (gp_var 4 rfl) (c_neD hu rfl rfl))))).gt (by simp [eqv_refl0 _ hd (by intro l z; cases z)])).of ⟨fun h => (nomatch h), fun _ => gss_nil ?_⟩))
        exact fin
      | int i =>
        have hu := by have := Asl.Room.u64 hr; exact Nat.lt_of_succ_lt this
        refine gss_one (gs_if ((GT.is (d' := false) (gtp_val (gp_isTuple a.b_isinstance a.b_tuple (gp_var 4 rfl))) (by simp)).of ⟨fun h => (nomatch h), fun _ => ?_⟩))
        refine gss_one (gs_if ((GT.is (d' := false) (gtp_cmp (gp_var 4 rfl) gp_non c_isN) (by simp)).of ⟨fun h => (nomatch h), fun _ => ?_⟩))
        refine gss_one (gs_if ((GT.is (d' := false) (gtp_val (gp_isStr a.b_isinstance a.b_str (gp_var 4 rfl))) (by simp)).of ⟨fun h => (nomatch h), fun _ => ?_⟩))
        refine gss_one (gs_if ((GT.is (d' := false) (gtp_val (gp_isBool a.b_isinstance a.b_bool (gp_var 4 rfl))) (by simp)).of ⟨fun h => (nomatch h), fun _ => ?_⟩))
        refine gss_one (gs_if ((GT.is (d' := false) (gwp_or (gtp_val (gp_isBool a.b_isinstance a.b_bool (gp_var 3 rfl))) (fun hq2 => (gwp_or (gtp_not (gtp_val (gp_isInt a.b_isinstance a.b_int (gp_var 3 rfl)))) (fun hq3 => (gwp_or1 (gtp_cmp (gp_var 3 rfl) (gp_var 4 rfl) (c_neD hu rfl rfl))))))).gt (by simp [eqv_refl0 _ hd (by intro l z; cases z)])).of ⟨fun h => (nomatch h), fun _ => gss_nil ?_⟩))
        exact fin
      | str x =>
        have hu := by have := Asl.Room.u64 hr; exact Nat.lt_of_succ_lt this
        refine gss_one (gs_if ((GT.is (d' := false) (gtp_val (gp_isTuple a.b_isinstance a.b_tuple (gp_var 4 rfl))) (by simp)).of ⟨fun h => (nomatch h), fun _ => ?_⟩))
        refine gss_one (gs_if ((GT.is (d' := false) (gtp_cmp (gp_var 4 rfl) gp_non c_isN) (by simp)).of ⟨fun h => (nomatch h), fun _ => ?_⟩))
        refine gss_one (gs_if ((GT.is (d' := true) (gtp_val (gp_isStr a.b_isinstance a.b_str (gp_var 4 rfl))) (by simp)).of ⟨fun _ => ?_, fun h => (nomatch h)⟩))
        refine gss_one (gs_if ((GT.is (d' := false) (gwp_or (gtp_not (gtp_val (gp_isStr a.b_isinstance a.b_str (gp_var 3 rfl)))) (fun hq4 => (gwp_or1 (gtp_cmp (gp_var 3 rfl) (gp_var 4 rfl) c_neS)))).gt (by simp)).of ⟨fun h => (nomatch h), fun _ => gss_nil ?_⟩))
        exact fin
      | tuple l =>
        have hpe : pz (.tuple l) = 1 + pzs l := by simp [pz]
        rw [hpe] at hsz ⊢
        have hll := pzs_len l
        have hlt0 := pzs_len t0
        refine gss_one (gs_if ((GT.is (d' := true) (gtp_val (gp_isTuple a.b_isinstance a.b_tuple (gp_var 4 rfl))) (by simp)).of ⟨fun _ => ?_, fun h => (nomatch h)⟩))
        refine gss_cons (gs_if ((GT.is (d' := false) (gwp_or (gtp_not (gtp_val (gp_isTuple a.b_isinstance a.b_tuple (gp_var 3 rfl)))) (fun _ => gwp_or1 (gtp_cmp (gp_lenT a.b_len (gp_var 3 rfl)) (gp_lenT a.b_len (gp_var 4 rfl)) c_neI))).gt (by simp)).of ⟨fun h => (nomatch h), fun _ => gss_nil ?_⟩))
        refine gss_one (gs_extO (f := f2) (l := t0) (m := l) 2 rfl (GE.is (gp_lc [("at", 5)] (List.range (l.length : Int).toNat) (fun k : Nat => PyData.int (k : Int)) (fun k => f2 (l.getD k .none)) rfl nd (gip_rng1 a.b_range (gp_lenT a.b_len (gp_var 4 rfl)) ⟨by omega, by omega⟩) (intR0 _) (szl (by rw [List.length_range]; omega)) (fun x hx s0 H0 C0 cl0 fp0 => gg_name 5 nd ⟨rfl, fun s1 H1 C1 cl1 fp1 => gp_tup (gap_cons (gp_ix (gp_var 3 rfl) (gp_var 5 rfl) (s_tup (at_rng hx))) (gap_cons (gp_ix (gp_var 4 rfl) (gp_var 5 rfl) (s_tup (at_rng hx))) gap_nil))⟩)) (dup_eq l)) .here (by omega) ?_)
        exact ⟨pzs (t0 ++ l), t0 ++ l, by rw [pzs_app]; omega, ⟨rfl, by rw [plas_app, hpl.1]; exact hd, by rw [pzs_app]; omega⟩, (by repeat (first | exact Wk.refl _ | exact Wk.nil | apply Wk.keep | apply Wk.drop)), rfl⟩
      | _ => simp [pla] at hd
    · exact GSs.wk (hs' := hs) (gss_one (gs_ret (gp_bl.of r))) (Wk.refl _) (List.sublist_cons_self _ _)
theorem c_law_counts (a : All K mg) : Callee P w K mg base 1 "_law_counts" ["weave"] SCnt :=
  mkC a.d_law_counts sc_law_counts fun f cdv A outer s H E hr args hs R hl h => by
    have nd : (["weave", "wefts", "unders", "weft", "row"] : List Str).Nodup := by decide
    obtain ⟨W, rfl, ⟨m, n, tb, hm, hm2, hn, hn2⟩, r⟩ := h
    have h1 := tb.l
    have h0 : (W.getD (0 : Int).toNat default).length = n := by
      have hl : 0 < W.length := by omega
      show (W.getD 0 default).length = n
      rw [List.getD_eq_getElem?_getD, List.getElem?_eq_getElem hl]
      exact tb.r _ (List.getElem_mem hl)
    have hrow : ∀ j : Nat, j ∈ List.range ((W.getD (0 : Int).toNat default).length : Int).toNat → ∀ y ∈ W, ((j : Nat) : Int) < y.length := by
      intro j hj y hy
      rw [List.mem_range] at hj
      rw [tb.r y hy]
      omega
    refine gss_cons (gs_set 1 nd (((gp_lenTm a.b_len (gp_atT (f := (fun x : (List Int) => (.tuple (x.map PyData.int)))) (gp_var 0 rfl) gp_int (by first | assumption | omega | exact hrow _ (by assumption) _ (by assumption)) (by first | assumption | omega | exact hrow _ (by assumption) _ (by assumption))))).of ?_))
    refine gss_cons (gs_set 2 nd (((gp_tuple a.b_tuple (gp_lcM [("weft", 3)] (List.range (((W.getD ((0 : Int)).toNat default).length : Int)).toNat) (fun k : Nat => PyData.int (k : Int)) (fun x1 => (W.map fun x2 => (x2.getD (((x1 : Nat) : Int)).toNat default)).sum) PyData.int rfl nd (gip_rng1 a.b_range (gp_var 1 rfl) ⟨(by first | omega | assumption), (by first | omega | assumption)⟩) (intR0 _) (szl (by first | (simp only [List.length_range, List.length_map, List.length_zipIdx, List.length_zip, List.length_mergeSort, List.length_take, Int.toNat_natCast]; omega) | omega | assumption)) (fun x1 hx1 s1 H1 C1 cl1 fp1 => (gg_name 3 nd ⟨rfl, fun s501 H501 C501 cl501 fp501 => (gp_sumL a.b_sum rfl (gp_lcM [("row", 4)] W (fun x : (List Int) => (.tuple (x.map PyData.int))) (fun x2 => (x2.getD (((x1 : Nat) : Int)).toNat default)) PyData.int rfl nd (gip_tup (gp_var 0 rfl)) rfl (szl (by first | (simp only [List.length_range, List.length_map, List.length_zipIdx, List.length_zip, List.length_mergeSort, List.length_take, Int.toNat_natCast]; omega) | omega | assumption)) (fun x2 hx2 s2 H2 C2 cl2 fp2 => (gg_name 4 nd ⟨rfl, fun s502 H502 C502 cl502 fp502 => (gp_atT (f := PyData.int) (gp_var 4 rfl) (gp_var 3 rfl) (by first | assumption | omega | exact hrow _ (by assumption) _ (by assumption)) (by first | assumption | omega | exact hrow _ (by assumption) _ (by assumption)))⟩))))⟩))))).of ?_))
    refine gss_one (gs_ret (((gp_tup (gap_cons (gp_tuple a.b_tuple (gp_lcM [("row", 4)] W (fun x : (List Int) => (.tuple (x.map PyData.int))) (fun x3 => x3.sum) PyData.int rfl nd (gip_tup (gp_var 0 rfl)) rfl (szl (by first | (simp only [List.length_range, List.length_map, List.length_zipIdx, List.length_zip, List.length_mergeSort, List.length_take, Int.toNat_natCast]; omega) | omega | assumption)) (fun x3 hx3 s3 H3 C3 cl3 fp3 => (gg_name 4 nd ⟨rfl, fun s503 H503 C503 cl503 fp503 => (gp_sumT a.b_sum rfl (gp_var 4 rfl))⟩)))) (gap_cons (gp_var 2 rfl) gap_nil)))).of ?_))
    exact r
def balL (c : ((List Int) × (List Int))) (m : Int) (o : Int) : Int := (((m * o) + ((c.2.mergeSort (dataLe false PyData.int)).take ((((c.2.mergeSort (dataLe false PyData.int)).length : Int) - o)).toNat).sum) - ((c.1.mergeSort (dataLe false PyData.int)).drop ((((c.1.mergeSort (dataLe false PyData.int)).length : Int) - m)).toNat).sum)
def S_law_balance : FS := F3 ((fun x : ((List Int) × (List Int)) => (.tuple [(.tuple (x.1.map PyData.int)), (.tuple (x.2.map PyData.int))]))) (PyData.int) (PyData.int) (fun c m o => Ck c ∧ 0 ≤ m ∧ m ≤ c.1.length ∧ 0 ≤ o ∧ o ≤ c.2.length) (fun c m o => (.int (balL c m o)))
theorem c_law_balance (a : All K mg) : Callee P w K mg base 1 "_law_balance" ["counts", "many", "other"] S_law_balance :=
  mkC a.d_law_balance sc_law_balance fun f cdv A outer s H E hr args hs R hl h => by
    have nd : (["counts", "many", "other", "overs", "unders"] : List Str).Nodup := by decide
    obtain ⟨c, m, o, rfl, hpre, r⟩ := h
    obtain ⟨hc, hm, hm2, ho, ho2⟩ := hpre
    have h1 := hc.m1
    have h2 := hc.m2
    refine gss_cons (gs_set 3 nd (((gp_sortedT (by exact hr) a.b_sorted (srt_ints _) (szl (by first | (simp only [List.length_range, List.length_map, List.length_zipIdx, List.length_zip, List.length_mergeSort, List.length_take, Int.toNat_natCast]; omega) | omega | assumption)) (gp_ix (gp_var 0 rfl) gp_int (s_tup rfl)))).of ?_))
    refine gss_cons (gs_set 4 nd (((gp_sortedT (by exact hr) a.b_sorted (srt_ints _) (szl (by first | (simp only [List.length_range, List.length_map, List.length_zipIdx, List.length_zip, List.length_mergeSort, List.length_take, Int.toNat_natCast]; omega) | omega | assumption)) (gp_ix (gp_var 0 rfl) gp_int (s_tup rfl)))).of ?_))
    refine gss_one (gs_ret (((gp_bin (gp_bin (gp_bin (gp_var 1 rfl) (gp_var 2 rfl) (b_mul (by first | exact .inl (by omega) | exact .inr (by omega)))) (gp_sumL a.b_sum rfl (gp_toL (gp_var 4 rfl) (gp_bin (gp_lenLm a.b_len (gp_var 4 rfl)) (gp_var 2 rfl) b_sub) (by first | assumption | omega | (simp only [List.length_mergeSort]; omega)))) b_add) (gp_sumL a.b_sum rfl (gp_fromL (gp_var 3 rfl) (gp_bin (gp_lenLm a.b_len (gp_var 3 rfl)) (gp_var 1 rfl) b_sub) (by first | assumption | omega | (simp only [List.length_mergeSort]; omega)))) b_sub)).of ?_))
    exact r
def balsL (c : CT) : List (List Int) := (List.range (c.1.length + 1)).map fun m : Nat => (List.range (c.2.length + 1)).map fun o : Nat => balL c (m : Int) (o : Int)
def SBals : FS := F1 cD Ck (fun c => tW (balsL c))
theorem c_law_balances (a : All K mg) : Callee P w K mg base 2 "_law_balances" ["counts"] SBals :=
  mkC a.d_law_balances sc_law_balances fun f cdv A outer s H E hr args hs R hl h => by
    have nd : (["counts", "rows", "many", "other"] : List Str).Nodup := by decide
    obtain ⟨c, rfl, hc, r⟩ := h
    have h1 := hc.m1
    have h2 := hc.m2
    refine gss_cons (gs_set 1 nd (ge_new (ga_nil ⟨Nat.zero_le _, fun p => ?_⟩)))
    refine gss_cons (gs_forT [2] ((List.range (((c.1.length : Int) + (1 : Int))).toNat)) (fun k : Nat => PyData.int (k : Int)) (fun t : List (List Int) => ([some (.d (cD c)), some (.r p), none, none] : Sl)) (fun t : List (List Int) => ((p, ol tI t) :: hs : Hs)) (fun i t => t = (List.range i).map fun m : Nat => (List.range (c.2.length + 1)).map fun o : Nat => balL c (m : Int) (o : Int)) [] pown rfl (gip_rng1 a.b_range (gp_bin (gp_lenTm a.b_len (gp_ix (gp_var 0 rfl) gp_int (s_tup rfl))) gp_int b_add) ⟨(by first | omega | assumption), (by first | omega | assumption)⟩) (intR0 _) ?_ (by repeat (first | exact Wk.refl _ | exact Wk.nil | apply Wk.keep | apply Wk.drop)) rfl ?_ ?_)
    · rfl
    · intro i x t hx hJ
      obtain ⟨rfl, hlt⟩ := rng_get hx
      have htl : t.length < 1000 := by
        rw [hJ, List.length_map, List.length_range]
        omega
      have hor : ∀ o : Nat, o ∈ List.range ((c.2.length : Int) + 1).toNat → (o : Int) ≤ c.2.length := by
        intro o ho
        rw [List.mem_range] at ho
        omega
      have e2 : ((c.2.length : Int) + 1).toNat = c.2.length + 1 := by omega
      refine (gg_name 2 nd ?_)
      refine gss_one (gs_appO (f := (fun x : (List Int) => (.tuple (x.map PyData.int)))) (l := t) (y := ((List.range (((c.2.length : Int) + (1 : Int))).toNat).map fun x1 => (balL c (i : Int) ((x1 : Nat) : Int)))) 1 rfl (gp_tuple a.b_tuple (gp_lcM [("other", 3)] (List.range (((c.2.length : Int) + (1 : Int))).toNat) (fun k : Nat => PyData.int (k : Int)) (fun x1 => (balL c (i : Int) ((x1 : Nat) : Int))) PyData.int rfl nd (gip_rng1 a.b_range (gp_bin (gp_lenTm a.b_len (gp_ix (gp_var 0 rfl) gp_int (s_tup rfl))) gp_int b_add) ⟨(by first | omega | assumption), (by first | omega | assumption)⟩) (intR0 _) (szl (by first | (simp only [List.length_range, List.length_map, List.length_zipIdx, List.length_zip, List.length_mergeSort, List.length_take, Int.toNat_natCast]; omega) | omega | assumption)) (fun x1 hx1 s1 H1 C1 cl1 fp1 => (gg_name 3 nd ⟨rfl, fun s501 H501 C501 cl501 fp501 => (gp_c (c_law_balance a) (by exact hr) (gap_cons (gp_var 0 rfl) (gap_cons (gp_var 2 rfl) (gap_cons (gp_var 3 rfl) gap_nil))) (pF3 c (i : Int) ((x1 : Nat) : Int) ⟨hc, by omega, by omega, by omega, hor _ (by assumption)⟩))⟩)))) (by first | exact .here | exact .there .here | exact .there (.there .here) | exact .there (.there (.there .here))) (by first | omega | assumption | (simp only [List.length_set, List.length_append, List.length_cons, List.length_nil, List.length_map, List.length_range]; omega)) ?_)
      exact ⟨_, by rw [hJ, e2, show List.range (i + 1) = List.range i ++ [i] from List.range_succ, List.map_append]; rfl, (by repeat (first | exact Wk.refl _ | exact Wk.nil | apply Wk.keep | apply Wk.drop)), rfl⟩
    · intro t hJ
      refine GSs.freeze (ds := t.map tI) 1 ?_ rfl (by rw [ol_ds]; exact .here)
      have e : t = balsL c := by
        rw [hJ, balsL, List.length_range, show ((c.1.length : Int) + 1).toNat = c.1.length + 1 by omega]
      refine gss_one (gs_ret (((gp_tuple a.b_tuple (gp_var 1 rfl))).of ?_))
      rw [e]; exact r
theorem bals_row {c : CT} : ∀ x ∈ balsL c, 0 < x.length := by
  intro x hx
  obtain ⟨m, _, rfl⟩ := List.mem_map.mp hx
  simp
theorem bals_len (c : CT) : (balsL c).length = c.1.length + 1 := by simp [balsL]
def lowest (c : ((List Int) × (List Int))) : Int := (minI ((balsL c).map fun x1 => (minI x1)))
def S_law_lowest : FS := F1 ((fun x : ((List Int) × (List Int)) => (.tuple [(.tuple (x.1.map PyData.int)), (.tuple (x.2.map PyData.int))]))) (fun c => Ck c) (fun c => (.int (lowest c)))
theorem c_law_lowest (a : All K mg) : Callee P w K mg base 3 "_law_lowest" ["counts"] S_law_lowest :=
  mkC a.d_law_lowest sc_law_lowest fun f cdv A outer s H E hr args hs R hl h => by
    have nd : (["counts", "row"] : List Str).Nodup := by decide
    obtain ⟨c, rfl, hpre, r⟩ := h
    have hc : Ck c := hpre
    have h1 := hc.m1
    have hl := bals_len c
    have hr0 := @bals_row c
    refine gss_one (gs_ret (((gp_minL a.b_min rfl (gp_lcM [("row", 1)] (balsL c) (fun x : (List Int) => (.tuple (x.map PyData.int))) (fun x1 => (minI x1)) PyData.int rfl nd (gip_tup (gp_c (c_law_balances a) (by exact hr) (gap_cons (gp_var 0 rfl) gap_nil) (pF1 c (by first | assumption | omega)))) rfl (szl (by first | (simp only [List.length_range, List.length_map, List.length_zipIdx, List.length_zip, List.length_mergeSort, List.length_take, Int.toNat_natCast]; omega) | omega | assumption)) (fun x1 hx1 s1 H1 C1 cl1 fp1 => (gg_name 1 nd ⟨rfl, fun s501 H501 C501 cl501 fp501 => (gp_minT a.b_min rfl (gp_var 1 rfl) (by first | exact hr0 _ (by assumption) | (rw [List.length_map]; omega)))⟩))) (by first | exact hr0 _ (by assumption) | (rw [List.length_map]; omega)))).of ?_))
    exact r
theorem c_law_made (a : All K mg) : Callee P w K mg base 2 "_law_made" ["counts", "thing"] SHas :=
  mkC a.d_law_made sc_law_made fun f cdv A outer s H E hr args hs R hl h => by
    have nd : (["counts", "thing", "overs", "unders", "row", "sign"] : List Str).Nodup := by decide
    obtain ⟨c, W, rfl, hc, tb, r⟩ := h
    have l1 := hc.l1
    have l2 := hc.l2
    have h1 := hc.m1
    have h2 := hc.m2
    refine gss_cons (gs_asg (vs := [2, 3]) ((gp_var 0 rfl).of (gg_tup rfl (ggs_cons (gg_name 2 nd (ggs_cons (gg_name 3 nd (ggs_nil ?_))))))))
    refine gss_cons (gs_if ((GT.is (d' := false) (gwp_or (gtp_not (gtp_val (gp_isTuple a.b_isinstance a.b_tuple (gp_var 1 rfl)))) (fun hq1 => (gwp_or1 (gtp_cmp (gp_lenTm a.b_len (gp_var 1 rfl)) (gp_lenTm a.b_len (gp_var 2 rfl)) c_neI)))).gt (by simp [tb.l])).of ⟨fun h => (nomatch h), fun _ => gss_nil ?_⟩))
    refine gss_cons (gs_forT [4] (W) (fun x : (List Int) => (.tuple (x.map PyData.int))) (fun t : Unit => ([some (.d (cD c)), some (.d (tW W)), some (.d (tI c.1)), some (.d (tI c.2)), none, none] : Sl)) (fun t : Unit => (hs : Hs)) (fun i t => True) () pown rfl (gip_tup (gp_var 1 rfl)) rfl ?_ (by repeat (first | exact Wk.refl _ | exact Wk.nil | apply Wk.keep | apply Wk.drop)) rfl ?_ ?_)
    · trivial
    · intro i x t hx hJ
      have hxm := List.mem_of_getElem? hx
      have hxl := tb.r x hxm
      have hxe := tb.e x hxm
      refine (gg_name 4 nd ?_)
      refine gss_cons (gs_if ((GT.is (d' := false) (gwp_or (gtp_not (gtp_val (gp_isTuple a.b_isinstance a.b_tuple (gp_var 4 rfl)))) (fun hq2 => (gwp_or1 (gtp_cmp (gp_lenTm a.b_len (gp_var 4 rfl)) (gp_lenTm a.b_len (gp_var 3 rfl)) c_neI)))).gt (by simp [hxl])).of ⟨fun h => (nomatch h), fun _ => gss_nil ?_⟩))
      refine gss_one (gs_if ((GT.is (d' := false) (gtp_cmp (gp_lenLm a.b_len (gp_lcIf [("sign", 5)] x PyData.int PyData.int (fun x3 => ((isB (.int x3) "bool") || ((!(isB (.int x3) "int")) || (!decide (x3 ∈ [(0 : Int), (1 : Int)]))))) rfl nd (gip_tup (gp_var 4 rfl)) rfl (szl (by first | (simp only [List.length_range, List.length_map, List.length_zipIdx, List.length_zip, List.length_mergeSort, List.length_take, Int.toNat_natCast]; omega) | omega | assumption)) (fun x3 hx3 s3 H3 C3 cl3 fp3 => (gg_name 5 nd ⟨rfl, fun s503 H503 C503 cl503 fp503 => ⟨(gwp_or (gtp_val (gp_isBool a.b_isinstance a.b_bool (gp_var 5 rfl))) (fun hq4 => (gwp_or (gtp_not (gtp_val (gp_isInt a.b_isinstance a.b_int (gp_var 5 rfl)))) (fun hq5 => (gwp_or1 (gtp_cmp (gp_var 5 rfl) (gp_tup (gap_cons gp_int (gap_cons gp_int gap_nil))) (q_notInT hr (α := Int) x3 [(0 : Int), (1 : Int)]))))))).gt, fun hpx3 => (gp_var 5 rfl)⟩⟩)))) gp_int c_gt) (by simp; intro y hy; rcases hxe y hy with e | e <;> simp [e])).of ⟨fun h => (nomatch h), fun _ => gss_nil ?_⟩))
      exact ⟨(), trivial, (by repeat (first | exact Wk.refl _ | exact Wk.nil | apply Wk.keep | apply Wk.drop)), rfl⟩
    · intro t hJ
      refine gss_one (gs_ret (((gp_cmp (gp_c (c_law_counts a) (by exact hr) (gap_cons (gp_var 1 rfl) gap_nil) (pF1 W ⟨_, _, tb, l1, h1, l2, h2⟩)) (gp_var 0 rfl) (q_eq hr (α := ((List Int) × (List Int))) (cnt W) c))).of ?_))
      exact r
/-! ### the plain law -/
theorem bal_nat (c : CT) (m o : Nat) : bal c (m : Int) (o : Int) = GR.bal c.1 c.2 m o := rfl
theorem sw_eq : ∀ os us : List Int, sw os us = GR.weave GR.rbn os us
  | [], _ => rfl
  | o :: os, us => by
    rw [sw, GR.weave, sw_eq os]
    rfl
theorem balL_eq {c : CT} {m o : Nat} (hm : m ≤ c.1.length) (ho : o ≤ c.2.length) : balL c (m : Int) (o : Int) = GR.bal c.1 c.2 m o := by
  have h1 := GR.asc_top c.1 m hm
  have h2 := GR.asc_low c.2 o ho
  unfold balL GR.bal
  rw [List.length_mergeSort, List.length_mergeSort, ← h1, ← h2]
  have e1 : ((c.2.length : Int) - (o : Int)).toNat = c.2.length - o := by omega
  have e2 : ((c.1.length : Int) - (m : Int)).toNat = c.1.length - m := by omega
  rw [e1, e2]
/-- every balance is at least 0 -/
def AllNN (c : CT) : Prop := ∀ m o : Nat, m ≤ c.1.length → o ≤ c.2.length → 0 ≤ GR.bal c.1 c.2 m o
theorem allNN_iff (c : CT) : AllNN c ↔ ∀ m o : Int, 0 ≤ m → m ≤ c.1.length → 0 ≤ o → o ≤ c.2.length → 0 ≤ bal c m o := by
  constructor
  · intro h m o h1 h2 h3 h4
    obtain ⟨m, rfl⟩ := Int.eq_ofNat_of_zero_le h1
    obtain ⟨o, rfl⟩ := Int.eq_ofNat_of_zero_le h3
    exact h m o (by omega) (by omega)
  · intro h m o h1 h2
    exact h m o (by omega) (by omega) (by omega) (by omega)
theorem lowest_iff {c : CT} : 0 ≤ lowest c ↔ AllNN c := by
  have hl := bals_len c
  have hm : 0 < ((balsL c).map fun x => minI x).length := by rw [List.length_map]; omega
  unfold lowest
  constructor
  · intro h m o h1 h2
    have a1 : (List.range (c.2.length + 1)).map (fun o : Nat => balL c (m : Int) (o : Int)) ∈ balsL c := List.mem_map.mpr ⟨m, List.mem_range.mpr (by omega), rfl⟩
    have a2 := minI_le (List.mem_map.mpr ⟨_, a1, rfl⟩ : minI ((List.range (c.2.length + 1)).map (fun o : Nat => balL c (m : Int) (o : Int))) ∈ (balsL c).map fun x => minI x)
    have a3 : minI ((List.range (c.2.length + 1)).map (fun o : Nat => balL c (m : Int) (o : Int))) ≤ balL c (m : Int) (o : Int) := minI_le (List.mem_map.mpr ⟨o, List.mem_range.mpr (by omega), rfl⟩)
    rw [← balL_eq h1 h2]
    omega
  · intro h
    obtain ⟨r, h1, h2⟩ := List.mem_map.mp (minI_mem hm)
    rw [← h2]
    have h3 := minI_mem (bals_row r h1)
    obtain ⟨m, h4, h5⟩ := List.mem_map.mp h1
    rw [← h5] at h3
    obtain ⟨o, h6, h7⟩ := List.mem_map.mp h3
    rw [List.mem_range] at h4 h6
    rw [← h5, ← h7, balL_eq (by omega) (by omega)]
    exact h m o (by omega) (by omega)
/-- counts that may be asked -/
structure OkC (c : CT) : Prop where
  ck : Ck c
  nn1 : ∀ x ∈ c.1, 0 ≤ x
  nn2 : ∀ x ∈ c.2, 0 ≤ x
theorem cnt_eq {W : List (List Int)} {m n : Nat} (t : Tab W m n) (hm : 1 ≤ m) : cnt W = (W.map (·.sum), (List.range n).map fun j => GR.colSum W j) := by
  have h0 : (W.getD (0 : Int).toNat default).length = n := by
    have hl : 0 < W.length := by have := t.l; omega
    show (W.getD 0 default).length = n
    rw [List.getD_eq_getElem?_getD, List.getElem?_eq_getElem hl]
    exact t.r _ (List.getElem_mem hl)
  unfold cnt
  rw [h0, Int.toNat_natCast]
  rfl
theorem cnt_ok {W : List (List Int)} {m n : Nat} (t : Tab W m n) (hm : 1 ≤ m) (hm2 : m ≤ 100) (hn : 1 ≤ n) (hn2 : n ≤ 100) : OkC (cnt W) ∧ (cnt W).1.length = m ∧ (cnt W).2.length = n ∧ AllNN (cnt W) ∧ (cnt W).1.sum = (cnt W).2.sum ∧ (∀ x ∈ (cnt W).1, x ≤ n) ∧ ∀ x ∈ (cnt W).2, x ≤ m := by
  have e := cnt_eq t hm
  have l1 : (cnt W).1.length = m := by rw [e]; simp [t.l]
  have l2 : (cnt W).2.length = n := by rw [e]; simp
  have row : ∀ r : List Int, (∀ y ∈ r, y = 0 ∨ y = 1) → 0 ≤ r.sum ∧ r.sum ≤ r.length := by
    intro r
    induction r with
    | nil => intro _; simp
    | cons a r ih =>
      intro h
      have := ih fun y m => h y (List.mem_cons_of_mem _ m)
      have := h a List.mem_cons_self
      rw [List.sum_cons, List.length_cons]
      omega
  refine ⟨⟨⟨by omega, by omega, by omega, by omega⟩, fun x hx => ?_, fun x hx => ?_⟩, l1, l2, ?_, ?_, fun x hx => ?_, fun x hx => ?_⟩
  · rw [e] at hx
    obtain ⟨r, hr, rfl⟩ := List.mem_map.mp hx
    exact (row r (t.e r hr)).1
  · rw [e] at hx
    obtain ⟨j, _, rfl⟩ := List.mem_map.mp hx
    exact (GR.col_le n W t.e j).1
  · rw [AllNN, e]
    exact fun m o h1 h2 => GR.bal_of (GR.tab_good t.r t.e) m o h1 h2
  · rw [e]
    exact GR.sum_rows n W t.r
  · rw [e] at hx
    obtain ⟨r, hr, rfl⟩ := List.mem_map.mp hx
    have := (row r (t.e r hr)).2
    rw [t.r r hr] at this
    exact this
  · rw [e] at hx
    obtain ⟨j, _, rfl⟩ := List.mem_map.mp hx
    have := (GR.col_le n W t.e j).2
    rw [t.l] at this
    exact this
theorem sw_cnt {c : CT} (h : OkC c) (hs : c.1.sum = c.2.sum) (ha : AllNN c) : cnt (sw c.1 c.2) = c := by
  have l1 := h.ck.l1
  rw [cnt_eq (sw_tab c) l1, sw_eq]
  obtain ⟨a, b⟩ := GR.weave_rbn (GR.good_of ha) hs h.nn1 h.nn2
  refine Prod.ext a ?_
  refine List.ext_getElem (by simp) fun i h1 h2 => ?_
  have := b i
  simp only [List.getElem_map, List.getElem_range]
  rw [this, List.getD_eq_getElem?_getD, List.getElem?_eq_getElem h2]
  rfl
theorem isw_zero {c : CT} (hs : c.1.sum = c.2.sum) : isw c "balance" 0 c.2.length = false ∧ isw c "balance" c.1.length 0 = false := by
  obtain ⟨a, b⟩ := GR.bal_ends hs
  have a : bal c 0 (c.2.length : Int) = 0 := a
  have b : bal c (c.1.length : Int) 0 = 0 := b
  constructor
  · rw [isw, if_pos hs, a]; simp
  · rw [isw, if_pos hs, b]; simp
theorem str_nn {c : CT} (hc : Ck c) (h : AllNN c) : ¬ minI ((places c).map fun p => bal c p.1 p.2) < 0 := by
  have hp : 0 < ((places c).map fun p => bal c p.1 p.2).length := by rw [List.length_map]; exact places_ne hc
  obtain ⟨p, h1, h2⟩ := List.mem_map.mp (minI_mem hp)
  have h3 := (places_mem p).mp h1
  have := (allNN_iff c).mp h p.1 p.2 h3.1.1 h3.1.2.1 h3.1.2.2.1 h3.1.2.2.2
  rw [← h2]
  omega
theorem sb : ("sums" : Str) ≠ "balance" := by decide

def SAsked : FS := fun args hs R => ∃ c wd, args = [.d (cD c), .d wd] ∧ OkC c ∧ (wd = .none ∨ ∃ W, wd = tW W ∧ Tab W c.1.length c.2.length ∧ cnt W = c) ∧ R (.d (.bool true)) hs
theorem c_law_asked (a : All K mg) : Callee P w K mg base 6 "_law_asked" ["counts", "weave"] SAsked :=
  mkC a.d_law_asked sc_law_asked fun f cdv A outer s H E hr args hs R hl h => by
    have nd : (["counts", "weave", "told", "sums", "number"] : List Str).Nodup := by decide
    obtain ⟨c, wd, rfl, hok, hw, r⟩ := h
    have hck := hok.ck
    have l1 := hck.l1
    have l2 := hck.l2
    have h1 := hck.m1
    have h2 := hck.m2
    have hwe : wd = .none ∨ (c.1.sum = c.2.sum ∧ AllNN c) := by
      rcases hw with e | ⟨W, e, tb, hc⟩
      · exact .inl e
      · have := cnt_ok tb l1 h1 l2 h2
        rw [hc] at this
        exact .inr ⟨this.2.2.2.2.1, this.2.2.2.1⟩
    refine gss_cons (gs_set 2 nd (ge_c0 (c_weave_answer a) hr (ga_cons ((gp_var 0 rfl).of (ga_nil ⟨rfl, c, rfl, ⟨hck, hok.nn1⟩, fun hne => ?_, fun heq m o h3 h4 h5 h6 h7 => ?_, fun heq hall => ?_⟩)))))
    · skip
      obtain rfl : wd = .none := hwe.resolve_right fun z => hne z.1
      refine gss_cons (gs_if ((GT.is (d' := false) (gwp_or (gtp_not (gtp_val (gp_isTuple a.b_isinstance a.b_tuple (gp_var 2 rfl)))) (fun hq1 => (gwp_or (gtp_cmp (gp_lenT a.b_len (gp_var 2 rfl)) gp_int c_lt) (fun hq2 => (gwp_or (gtp_not (gtp_val (gp_isStr a.b_isinstance a.b_str (gp_ix (gp_var 2 rfl) gp_int (s_tup rfl))))) (fun hq3 => (gwp_or1 (gtp_cmp (gp_c (c_is_weave_answer a) (by exact hr) (gap_cons (gp_var 0 rfl) (gap_cons (gp_var 2 rfl) gap_nil)) (fun R r => ⟨c, hck, .inr ⟨("sums" : Str), c.1.sum, c.2.sum, rfl, r⟩⟩)) gp_bl c_notB)))))))).gt (by simp [isw, hne])).of ⟨fun h => (nomatch h), fun _ => gss_nil ?_⟩))
      refine gss_cons (gs_set 3 nd (((gp_tup (gap_cons gp_str (gap_cons (gp_sumT a.b_sum rfl (gp_ix (gp_var 0 rfl) gp_int (s_tup rfl))) (gap_cons (gp_sumT a.b_sum rfl (gp_ix (gp_var 0 rfl) gp_int (s_tup rfl))) gap_nil))))).of ?_))
      refine gss_cons (gs_if ((GT.is (d' := true) (gtp_cmp (gp_ix (gp_var 3 rfl) gp_int (s_tup rfl)) (gp_ix (gp_var 3 rfl) gp_int (s_tup rfl)) c_neI) (by simp [hne])).of ⟨fun _ => ?_, fun h => (nomatch h)⟩))
      refine gss_one (gs_ret (((gp_c (c_law_same a) (by exact hr) (gap_cons (gp_var 2 rfl) (gap_cons (gp_var 3 rfl) gap_nil)) (fun R r => ⟨_, rfl, rfl, Nat.le_of_ble_eq_true rfl, r⟩))).of ?_))
      exact r
    · skip
      have hnn : ¬ AllNN c := fun z => by have := (allNN_iff c).mp z m o h3 h4 h5 h6; omega
      obtain rfl : wd = .none := hwe.resolve_right fun z => hnn z.2
      obtain ⟨z1, z2⟩ := isw_zero heq
      have hlow : ¬ 0 ≤ lowest c := fun z => hnn (lowest_iff.mp z)
      have hbl : balL c m o < 0 := by
        obtain ⟨m, rfl⟩ := Int.eq_ofNat_of_zero_le h3
        obtain ⟨o, rfl⟩ := Int.eq_ofNat_of_zero_le h5
        rw [balL_eq (by omega) (by omega)]
        exact h7
      have hi : isw c "balance" m o = true := by rw [isw, if_pos heq]; simp [h3, h4, h5, h6, h7]
      refine gss_cons (gs_if ((GT.is (d' := false) (gwp_or (gtp_not (gtp_val (gp_isTuple a.b_isinstance a.b_tuple (gp_var 2 rfl)))) (fun hq4 => (gwp_or (gtp_cmp (gp_lenT a.b_len (gp_var 2 rfl)) gp_int c_lt) (fun hq5 => (gwp_or (gtp_not (gtp_val (gp_isStr a.b_isinstance a.b_str (gp_ix (gp_var 2 rfl) gp_int (s_tup rfl))))) (fun hq6 => (gwp_or1 (gtp_cmp (gp_c (c_is_weave_answer a) (by exact hr) (gap_cons (gp_var 0 rfl) (gap_cons (gp_var 2 rfl) gap_nil)) (fun R r => ⟨c, hck, .inr ⟨("balance" : Str), m, o, rfl, r⟩⟩)) gp_bl c_notB)))))))).gt (by simp [hi])).of ⟨fun h => (nomatch h), fun _ => gss_nil ?_⟩))
      refine gss_cons (gs_set 3 nd (((gp_tup (gap_cons gp_str (gap_cons (gp_sumT a.b_sum rfl (gp_ix (gp_var 0 rfl) gp_int (s_tup rfl))) (gap_cons (gp_sumT a.b_sum rfl (gp_ix (gp_var 0 rfl) gp_int (s_tup rfl))) gap_nil))))).of ?_))
      refine gss_cons (gs_if ((GT.is (d' := false) (gtp_cmp (gp_ix (gp_var 3 rfl) gp_int (s_tup rfl)) (gp_ix (gp_var 3 rfl) gp_int (s_tup rfl)) c_neI) (by simp [heq])).of ⟨fun h => (nomatch h), fun _ => gss_nil ?_⟩))
      refine gss_cons (gs_if ((GT.is (d' := false) (gwp_or (gtp_cmp (gp_c (c_is_weave_answer a) (by exact hr) (gap_cons (gp_var 0 rfl) (gap_cons (gp_tup (gap_cons gp_str (gap_cons gp_int (gap_cons (gp_lenTm a.b_len (gp_ix (gp_var 0 rfl) gp_int (s_tup rfl))) gap_nil)))) gap_nil)) (fun R r => ⟨c, hck, .inr ⟨("balance" : Str), (0 : Int), (c.2.length : Int), rfl, r⟩⟩)) gp_bl c_notB) (fun hq7 => (gwp_or1 (gtp_cmp (gp_c (c_is_weave_answer a) (by exact hr) (gap_cons (gp_var 0 rfl) (gap_cons (gp_tup (gap_cons gp_str (gap_cons (gp_lenTm a.b_len (gp_ix (gp_var 0 rfl) gp_int (s_tup rfl))) (gap_cons gp_int gap_nil)))) gap_nil)) (fun R r => ⟨c, hck, .inr ⟨("balance" : Str), (c.1.length : Int), (0 : Int), rfl, r⟩⟩)) gp_bl c_notB)))).gt (by simp [z1, z2])).of ⟨fun h => (nomatch h), fun _ => gss_nil ?_⟩))
      refine gss_cons (gs_if ((GT.is (d' := false) (gwp_or (gtp_cmp (gp_c (c_is_weave_answer a) (by exact hr) (gap_cons (gp_var 0 rfl) (gap_cons (gp_var 3 rfl) gap_nil)) (fun R r => ⟨c, hck, .inr ⟨("sums" : Str), c.1.sum, c.2.sum, rfl, r⟩⟩)) gp_bl c_notB) (fun hq8 => (gwp_or1 (gwp_and (u := false) (gtp_cmp (gp_var 1 rfl) gp_non c_notN) (fun h => absurd h (by simp))).gt))).gt (by simp [isw, heq, sb])).of ⟨fun h => (nomatch h), fun _ => gss_nil ?_⟩))
      refine gss_cons (gs_if ((GT.is (d' := false) (gtp_cmp (gp_c (c_law_lowest a) (by exact hr) (gap_cons (gp_var 0 rfl) gap_nil) (pF1 c (by first | assumption | omega))) gp_int c_ge) (by simp; omega)).of ⟨fun h => (nomatch h), fun _ => gss_nil ?_⟩))
      refine gss_cons (gs_if ((GT.is (d' := false) (gwp_or (gtp_cmp (gp_var 1 rfl) gp_non c_notN) (fun hq9 => (gwp_or (gtp_cmp (gp_ix (gp_var 2 rfl) gp_int (s_tup rfl)) gp_str c_neS) (fun hq10 => (gwp_or1 (gtp_cmp (gp_lenT a.b_len (gp_var 2 rfl)) gp_int c_neI)))))).gt (by simp)).of ⟨fun h => (nomatch h), fun _ => gss_nil ?_⟩))
      
      refine gss_cons (gs_forT [4] ([m, o]) PyData.int (fun t : Unit => ([some (.d (cD c)), some (.d .none), some (.d (.tuple [.str "balance", .int m, .int o])), some (.d (.tuple [.str "sums", .int c.1.sum, .int c.2.sum])), none] : Sl)) (fun t : Unit => (hs : Hs)) (fun i t => True) () pown rfl (gip_tup (gp_fromP (ds' := [.int m, .int o]) (gp_var 2 rfl) gp_int rfl)) rfl ?_ (by repeat (first | exact Wk.refl _ | exact Wk.nil | apply Wk.keep | apply Wk.drop)) rfl ?_ ?_)
      · trivial
      · intro i x t hx hJ
        refine (gg_name 4 nd ?_)
        refine gss_one (gs_if ((GT.is (d' := false) (gwp_or (gtp_val (gp_isBool a.b_isinstance a.b_bool (gp_var 4 rfl))) (fun hq11 => (gwp_or1 (gtp_not (gtp_val (gp_isInt a.b_isinstance a.b_int (gp_var 4 rfl))))))).gt (by simp)).of ⟨fun h => (nomatch h), fun _ => gss_nil ?_⟩))
        exact ⟨(), trivial, (by repeat (first | exact Wk.refl _ | exact Wk.nil | apply Wk.keep | apply Wk.drop)), rfl⟩
      · intro t hJ
        refine gss_one (gs_ret ((GE.is (d' := PyData.bool true) (gp_and (gp_chain gp_int (gp_ix (gp_var 2 rfl) gp_int (s_tup rfl)) c_le (fun _ => (gp_lenTm a.b_len (gp_ix (gp_var 0 rfl) gp_int (s_tup rfl)))) (fun _ => c_le)) (fun hq12 => (gp_and (gp_chain gp_int (gp_ix (gp_var 2 rfl) gp_int (s_tup rfl)) c_le (fun _ => (gp_lenTm a.b_len (gp_ix (gp_var 0 rfl) gp_int (s_tup rfl)))) (fun _ => c_le)) (fun hq13 => (gp_one (gp_cmp (gp_c (c_law_balance a) (by exact hr) (gap_cons (gp_var 0 rfl) (gap_cons (gp_ix (gp_var 2 rfl) gp_int (s_tup rfl)) (gap_cons (gp_ix (gp_var 2 rfl) gp_int (s_tup rfl)) gap_nil))) (pF3 c m o ⟨hck, h3, h4, h5, h6⟩)) gp_int c_lt)))))) (by simp [h3, h4, h5, h6, hbl])).of ?_))
        exact r
    · skip
      have hall : AllNN c := (allNN_iff c).mpr hall
      obtain ⟨z1, z2⟩ := isw_zero heq
      have hlow := lowest_iff.mpr hall
      have hcn := sw_cnt hok heq hall
      have tbs := sw_tab c
      rcases hw with rfl | ⟨W, rfl, tb, hcW⟩
      · skip
        refine gss_cons (gs_if ((GT.is (d' := false) (gwp_or (gtp_not (gtp_val (gp_isTuple a.b_isinstance a.b_tuple (gp_var 2 rfl)))) (fun hq14 => (gwp_or (gtp_cmp (gp_lenT a.b_len (gp_var 2 rfl)) gp_int c_lt) (fun hq15 => (gwp_or (gtp_not (gtp_val (gp_isStr a.b_isinstance a.b_str (gp_ix (gp_var 2 rfl) gp_int (s_tup rfl))))) (fun hq16 => (gwp_or1 (gtp_cmp (gp_c (c_is_weave_answer a) (by exact hr) (gap_cons (gp_var 0 rfl) (gap_cons (gp_var 2 rfl) gap_nil)) (fun R r => ⟨c, hck, .inl ⟨(sw c.1 c.2), rfl, tbs, r⟩⟩)) gp_bl c_notB)))))))).gt (by simp [hcn])).of ⟨fun h => (nomatch h), fun _ => gss_nil ?_⟩))
        refine gss_cons (gs_set 3 nd (((gp_tup (gap_cons gp_str (gap_cons (gp_sumT a.b_sum rfl (gp_ix (gp_var 0 rfl) gp_int (s_tup rfl))) (gap_cons (gp_sumT a.b_sum rfl (gp_ix (gp_var 0 rfl) gp_int (s_tup rfl))) gap_nil))))).of ?_))
        refine gss_cons (gs_if ((GT.is (d' := false) (gtp_cmp (gp_ix (gp_var 3 rfl) gp_int (s_tup rfl)) (gp_ix (gp_var 3 rfl) gp_int (s_tup rfl)) c_neI) (by simp [heq])).of ⟨fun h => (nomatch h), fun _ => gss_nil ?_⟩))
        refine gss_cons (gs_if ((GT.is (d' := false) (gwp_or (gtp_cmp (gp_c (c_is_weave_answer a) (by exact hr) (gap_cons (gp_var 0 rfl) (gap_cons (gp_tup (gap_cons gp_str (gap_cons gp_int (gap_cons (gp_lenTm a.b_len (gp_ix (gp_var 0 rfl) gp_int (s_tup rfl))) gap_nil)))) gap_nil)) (fun R r => ⟨c, hck, .inr ⟨("balance" : Str), (0 : Int), (c.2.length : Int), rfl, r⟩⟩)) gp_bl c_notB) (fun hq17 => (gwp_or1 (gtp_cmp (gp_c (c_is_weave_answer a) (by exact hr) (gap_cons (gp_var 0 rfl) (gap_cons (gp_tup (gap_cons gp_str (gap_cons (gp_lenTm a.b_len (gp_ix (gp_var 0 rfl) gp_int (s_tup rfl))) (gap_cons gp_int gap_nil)))) gap_nil)) (fun R r => ⟨c, hck, .inr ⟨("balance" : Str), (c.1.length : Int), (0 : Int), rfl, r⟩⟩)) gp_bl c_notB)))).gt (by simp [z1, z2])).of ⟨fun h => (nomatch h), fun _ => gss_nil ?_⟩))
        refine gss_cons (gs_if ((GT.is (d' := false) (gwp_or (gtp_cmp (gp_c (c_is_weave_answer a) (by exact hr) (gap_cons (gp_var 0 rfl) (gap_cons (gp_var 3 rfl) gap_nil)) (fun R r => ⟨c, hck, .inr ⟨("sums" : Str), c.1.sum, c.2.sum, rfl, r⟩⟩)) gp_bl c_notB) (fun hq18 => (gwp_or1 (gwp_and (u := false) (gtp_cmp (gp_var 1 rfl) gp_non c_notN) (fun h => absurd h (by simp))).gt))).gt (by simp [isw, heq, sb])).of ⟨fun h => (nomatch h), fun _ => gss_nil ?_⟩))
        refine gss_cons (gs_if ((GT.is (d' := true) (gtp_cmp (gp_c (c_law_lowest a) (by exact hr) (gap_cons (gp_var 0 rfl) gap_nil) (pF1 c (by first | assumption | omega))) gp_int c_ge) (by simp; omega)).of ⟨fun _ => ?_, fun h => (nomatch h)⟩))
        refine gss_one (gs_ret ((GE.is (d' := PyData.bool true) (gp_and (gp_cmp (gp_ix (gp_var 2 rfl) gp_int (s_tup rfl)) gp_str c_eqS) (fun hq19 => (gp_and (gp_cmp (gp_lenT a.b_len (gp_var 2 rfl)) gp_int c_eqI) (fun hq20 => (gp_one (gp_c (c_law_made a) (by exact hr) (gap_cons (gp_var 0 rfl) (gap_cons (gp_ix (gp_var 2 rfl) gp_int (s_tup rfl)) gap_nil)) (fun R r => ⟨c, (sw c.1 c.2), rfl, hck, tbs, r⟩))))))) (by simp [hcn])).of ?_))
        exact r
      · skip
        refine gss_cons (gs_if ((GT.is (d' := false) (gwp_or (gtp_not (gtp_val (gp_isTuple a.b_isinstance a.b_tuple (gp_var 2 rfl)))) (fun hq21 => (gwp_or (gtp_cmp (gp_lenT a.b_len (gp_var 2 rfl)) gp_int c_lt) (fun hq22 => (gwp_or (gtp_not (gtp_val (gp_isStr a.b_isinstance a.b_str (gp_ix (gp_var 2 rfl) gp_int (s_tup rfl))))) (fun hq23 => (gwp_or1 (gtp_cmp (gp_c (c_is_weave_answer a) (by exact hr) (gap_cons (gp_var 0 rfl) (gap_cons (gp_var 2 rfl) gap_nil)) (fun R r => ⟨c, hck, .inl ⟨(sw c.1 c.2), rfl, tbs, r⟩⟩)) gp_bl c_notB)))))))).gt (by simp [hcn])).of ⟨fun h => (nomatch h), fun _ => gss_nil ?_⟩))
        refine gss_cons (gs_set 3 nd (((gp_tup (gap_cons gp_str (gap_cons (gp_sumT a.b_sum rfl (gp_ix (gp_var 0 rfl) gp_int (s_tup rfl))) (gap_cons (gp_sumT a.b_sum rfl (gp_ix (gp_var 0 rfl) gp_int (s_tup rfl))) gap_nil))))).of ?_))
        refine gss_cons (gs_if ((GT.is (d' := false) (gtp_cmp (gp_ix (gp_var 3 rfl) gp_int (s_tup rfl)) (gp_ix (gp_var 3 rfl) gp_int (s_tup rfl)) c_neI) (by simp [heq])).of ⟨fun h => (nomatch h), fun _ => gss_nil ?_⟩))
        refine gss_cons (gs_if ((GT.is (d' := false) (gwp_or (gtp_cmp (gp_c (c_is_weave_answer a) (by exact hr) (gap_cons (gp_var 0 rfl) (gap_cons (gp_tup (gap_cons gp_str (gap_cons gp_int (gap_cons (gp_lenTm a.b_len (gp_ix (gp_var 0 rfl) gp_int (s_tup rfl))) gap_nil)))) gap_nil)) (fun R r => ⟨c, hck, .inr ⟨("balance" : Str), (0 : Int), (c.2.length : Int), rfl, r⟩⟩)) gp_bl c_notB) (fun hq24 => (gwp_or1 (gtp_cmp (gp_c (c_is_weave_answer a) (by exact hr) (gap_cons (gp_var 0 rfl) (gap_cons (gp_tup (gap_cons gp_str (gap_cons (gp_lenTm a.b_len (gp_ix (gp_var 0 rfl) gp_int (s_tup rfl))) (gap_cons gp_int gap_nil)))) gap_nil)) (fun R r => ⟨c, hck, .inr ⟨("balance" : Str), (c.1.length : Int), (0 : Int), rfl, r⟩⟩)) gp_bl c_notB)))).gt (by simp [z1, z2])).of ⟨fun h => (nomatch h), fun _ => gss_nil ?_⟩))
        refine gss_cons (gs_if ((GT.is (d' := false) (gwp_or (gtp_cmp (gp_c (c_is_weave_answer a) (by exact hr) (gap_cons (gp_var 0 rfl) (gap_cons (gp_var 3 rfl) gap_nil)) (fun R r => ⟨c, hck, .inr ⟨("sums" : Str), c.1.sum, c.2.sum, rfl, r⟩⟩)) gp_bl c_notB) (fun hq25 => (gwp_or1 (gwp_and (gtp_cmp (gp_var 1 rfl) gp_non c_notN) (fun hq26 => (gwp_and1 (gtp_cmp (gp_c (c_is_weave_answer a) (by exact hr) (gap_cons (gp_var 0 rfl) (gap_cons (gp_tup (gap_cons gp_str (gap_cons (gp_var 1 rfl) gap_nil))) gap_nil)) (fun R r => ⟨c, hck, .inl ⟨W, rfl, tb, r⟩⟩)) gp_bl c_notB)))).gt))).gt (by simp [isw, heq, sb, hcW])).of ⟨fun h => (nomatch h), fun _ => gss_nil ?_⟩))
        refine gss_cons (gs_if ((GT.is (d' := true) (gtp_cmp (gp_c (c_law_lowest a) (by exact hr) (gap_cons (gp_var 0 rfl) gap_nil) (pF1 c (by first | assumption | omega))) gp_int c_ge) (by simp; omega)).of ⟨fun _ => ?_, fun h => (nomatch h)⟩))
        refine gss_one (gs_ret ((GE.is (d' := PyData.bool true) (gp_and (gp_cmp (gp_ix (gp_var 2 rfl) gp_int (s_tup rfl)) gp_str c_eqS) (fun hq27 => (gp_and (gp_cmp (gp_lenT a.b_len (gp_var 2 rfl)) gp_int c_eqI) (fun hq28 => (gp_one (gp_c (c_law_made a) (by exact hr) (gap_cons (gp_var 0 rfl) (gap_cons (gp_ix (gp_var 2 rfl) gp_int (s_tup rfl)) gap_nil)) (fun R r => ⟨c, (sw c.1 c.2), rfl, hck, tbs, r⟩))))))) (by simp [hcn])).of ?_))
        exact r
def SWeave : FS := fun args hs R => ∃ p ns m n, args = [.r p, .d (.int (m : Nat)), .d (.int (n : Nat))] ∧ hs = [(p, oI ns)] ∧ POk ns ∧ 1 ≤ m ∧ m ≤ 100 ∧ 1 ≤ n ∧ n ≤ 100 ∧ ∀ W ns', Tab W m n → POk ns' → R (.d (tW W)) [(p, oI ns')]
/-- a row of 0 and 1 -/
abbrev R01 (l : List Int) : Prop := ∀ y ∈ l, y = 0 ∨ y = 1
theorem R01.app {l : List Int} {x : Int} (h : R01 l) (q : x = 0 ∨ x = 1) : R01 (l ++ [x]) := by
  intro y hy
  rcases List.mem_append.mp hy with m | m
  · exact h y m
  · rw [List.mem_singleton.mp m]; exact q
theorem R01.put {l : List Int} {x : Int} (h : R01 l) (q : x = 0 ∨ x = 1) (j : Nat) : R01 (l.set j x) := by
  intro y hy
  rcases List.mem_or_eq_of_mem_set hy with m | m
  · exact h y m
  · rw [m]; exact q
theorem bit {k : Int} (h0 : 0 ≤ k) (h1 : k < 2) : k = 0 ∨ k = 1 := by omega
theorem bitB (b : Bool) : (if b = true then (1 : Int) else 0) = 0 ∨ (if b = true then (1 : Int) else 0) = 1 := by cases b <;> simp
abbrev Rws := List (Addr × List Int)
abbrev rwsH (q : Addr) (rs : Rws) : Hs := (q, .lst (rs.map fun r => EV.r r.1)) :: rs.map fun r => (r.1, oI r.2)
theorem c_law_weave (a : All K mg) : Callee P w K mg base 2 "_law_weave" ["pool", "warps", "wefts"] SWeave :=
  mkC a.d_law_weave sc_law_weave fun f cdv A outer s H E hr args hs R hl h => by
    have nd : (["pool", "warps", "wefts", "habit", "rows", "warp", "row", "weft", "sign"] : List Str).Nodup := by decide
    obtain ⟨p, ns, m, n, rfl, rfl, hok, hm, hm2, hn, hn2, r⟩ := h
    refine gss_cons (gs_set 3 nd ?_)
    refine ge_c1 (c_law_take a) hr (ga_cons (ge_var 0 rfl (ga_cons ((gp_int).of (ga_nil ⟨rfl, _, _, rfl, p, ns, (5 : Int), rfl, rfl, hok, (by omega), (by omega), fun k1 ns2 lo4 hi5 ok3 => ?_⟩)))))
    refine gss_cons (gs_set 4 nd (ge_new (ga_nil ⟨Nat.zero_le _, fun q => ?_⟩)))
    refine GSs.perm ?_ (List.Perm.swap _ _ _)
    refine gss_cons (gs_forT [5] ((List.range ((m : Int)).toNat)) (fun k : Nat => PyData.int (k : Int)) (fun t : List Int × Rws => ([some (.r p), some (.d (.int (m : Nat))), some (.d (.int (n : Nat))), some (.d (.int k1)), some (.r q), none, none, none, none] : Sl)) (fun t : List Int × Rws => ((p, oI t.1) :: rwsH q t.2 : Hs)) (fun i t => POk t.1 ∧ t.2.length = i ∧ ∀ r ∈ t.2, r.2.length = n ∧ R01 r.2) (ns2, []) pown rfl (gip_rng1 a.b_range (gp_var 1 rfl) ⟨(by first | omega | assumption), (by first | omega | assumption)⟩) (intR0 _) ?_ (by repeat (first | exact Wk.refl _ | exact Wk.nil | apply Wk.keep | apply Wk.drop)) rfl ?_ ?_)
    · exact ⟨ok3, rfl, fun r m => nomatch m⟩
    · intro i x t hx hJ
      obtain ⟨rfl, hlt⟩ := rng_get hx
      obtain ⟨j1, j2, j3⟩ := hJ
      refine (gg_name 5 nd ?_)
      refine gss_cons (gs_set 6 nd (ge_new (ga_nil ⟨Nat.zero_le _, fun q2 => ?_⟩)))
      refine GSs.perm ?_ (List.Perm.swap _ _ _)
      refine gss_cons (gs_forT [7] ((List.range ((n : Int)).toNat)) (fun k : Nat => PyData.int (k : Int)) (fun u : List Int × List Int => ([some (.r p), some (.d (.int (m : Nat))), some (.d (.int (n : Nat))), some (.d (.int k1)), some (.r q), some (.d (.int (i : Int))), some (.r q2), none, none] : Sl)) (fun u : List Int × List Int => ((p, oI u.1) :: (q2, oI u.2) :: rwsH q t.2 : Hs)) (fun j u => POk u.1 ∧ u.2.length = j ∧ R01 u.2) (t.1, []) pown rfl (gip_rng1 a.b_range (gp_var 2 rfl) ⟨(by first | omega | assumption), (by first | omega | assumption)⟩) (intR0 _) ?_ (by repeat (first | exact Wk.refl _ | exact Wk.nil | apply Wk.keep | apply Wk.drop)) rfl ?_ ?_)
      · exact ⟨j1, rfl, fun y m => nomatch m⟩
      · intro j y u hy hJ
        obtain ⟨rfl, hlt2⟩ := rng_get hy
        obtain ⟨i1, i2, i3⟩ := hJ
        refine (gg_name 7 nd ?_)
        refine gss_cons (gs_set 8 nd ?_)
        refine ge_c1 (c_law_take a) hr (ga_cons (ge_var 0 rfl (ga_cons ((gp_int).of (ga_nil ⟨rfl, _, _, rfl, p, u.1, (2 : Int), rfl, rfl, i1, (by omega), (by omega), fun k6 ns7 lo9 hi10 ok8 => ?_⟩)))))
        have hs0 : k6 = 0 ∨ k6 = 1 := bit (by assumption) (by assumption)
        refine gss_mid (fun v : List Int × Int => ([some (.r p), some (.d (.int (m : Nat))), some (.d (.int (n : Nat))), some (.d (.int k1)), some (.r q), some (.d (.int (i : Int))), some (.r q2), some (.d (.int (j : Int))), some (.d (.int v.2))] : Sl)) (fun v : List Int × Int => ((p, oI v.1) :: (q2, oI u.2) :: rwsH q t.2 : Hs)) (fun v => POk v.1 ∧ (v.2 = 0 ∨ v.2 = 1)) ?_ ?_
        · skip
          refine  (gs_if (((gtp_cmp (gp_var 3 rfl) gp_int c_eqI)).of ⟨fun hb => ?_, fun hb => ?_⟩))
          · skip
            refine gss_one (gs_set 8 nd ?_)
            refine ge_intB a.b_int ?_
            refine ge_cmp ?_
            refine ge_c1 (c_law_take a) hr (ga_cons (ge_var 0 rfl (ga_cons ((gp_int).of (ga_nil ⟨rfl, _, _, rfl, p, ns7, (4 : Int), rfl, rfl, ok8, (by omega), (by omega), fun k11 ns12 lo14 hi15 ok13 => ?_⟩)))))
            refine ⟨_, rfl, ?_⟩
            refine (gp_int).of ?_
            refine ⟨_, _, rfl, c_gt, ?_⟩
            refine ⟨_, rfl, ?_⟩
            exact ⟨(ns12, (if (decide ((0 : Int) < k11)) then 1 else 0)), ⟨ok13, bitB _⟩, (by repeat (first | exact Wk.refl _ | exact Wk.nil | apply Wk.keep | apply Wk.drop)), rfl⟩
          · refine gss_nil ?_
            exact ⟨(ns7, k6), ⟨ok8, hs0⟩, (by repeat (first | exact Wk.refl _ | exact Wk.nil | apply Wk.keep | apply Wk.drop)), rfl⟩
        · intro v1 hJ
          obtain ⟨v1o, v1b⟩ := hJ
          refine gss_mid (fun v : List Int × Int => ([some (.r p), some (.d (.int (m : Nat))), some (.d (.int (n : Nat))), some (.d (.int k1)), some (.r q), some (.d (.int (i : Int))), some (.r q2), some (.d (.int (j : Int))), some (.d (.int v.2))] : Sl)) (fun v : List Int × Int => ((p, oI v.1) :: (q2, oI u.2) :: rwsH q t.2 : Hs)) (fun v => POk v.1 ∧ (v.2 = 0 ∨ v.2 = 1)) ?_ ?_
          · skip
            refine  (gs_if (((gtp_cmp (gp_var 3 rfl) gp_int c_eqI)).of ⟨fun hb => ?_, fun hb => ?_⟩))
            · skip
              refine gss_one (gs_set 8 nd ?_)
              refine ge_intB a.b_int ?_
              refine ge_cmp ?_
              refine ge_c1 (c_law_take a) hr (ga_cons (ge_var 0 rfl (ga_cons ((gp_int).of (ga_nil ⟨rfl, _, _, rfl, p, v1.1, (4 : Int), rfl, rfl, v1o, (by omega), (by omega), fun k16 ns17 lo19 hi20 ok18 => ?_⟩)))))
              refine ⟨_, rfl, ?_⟩
              refine (gp_int).of ?_
              refine ⟨_, _, rfl, c_eqI, ?_⟩
              refine ⟨_, rfl, ?_⟩
              exact ⟨(ns17, (if (decide (k16 = (0 : Int))) then 1 else 0)), ⟨ok18, bitB _⟩, (by repeat (first | exact Wk.refl _ | exact Wk.nil | apply Wk.keep | apply Wk.drop)), rfl⟩
            · refine gss_nil ?_
              exact ⟨(v1.1, v1.2), ⟨v1o, v1b⟩, (by repeat (first | exact Wk.refl _ | exact Wk.nil | apply Wk.keep | apply Wk.drop)), rfl⟩
          · intro v2 hJ
            obtain ⟨v2o, v2b⟩ := hJ
            refine gss_mid (fun v : List Int × Int => ([some (.r p), some (.d (.int (m : Nat))), some (.d (.int (n : Nat))), some (.d (.int k1)), some (.r q), some (.d (.int (i : Int))), some (.r q2), some (.d (.int (j : Int))), some (.d (.int v.2))] : Sl)) (fun v : List Int × Int => ((p, oI v.1) :: (q2, oI u.2) :: rwsH q t.2 : Hs)) (fun v => POk v.1 ∧ (v.2 = 0 ∨ v.2 = 1)) ?_ ?_
            · skip
              refine gs_if (GW.gt (gw_and ?_))
              refine ((gtp_cmp (gp_var 3 rfl) gp_int c_eqI)).of ⟨fun _ => gw_and1 ?_, fun _ => ⟨fun z => (nomatch z), fun _ => gss_nil ?_⟩⟩
              · skip
                refine gt_cmp ?_
                refine ge_c1 (c_law_take a) hr (ga_cons (ge_var 0 rfl (ga_cons ((gp_int).of (ga_nil ⟨rfl, _, _, rfl, p, v2.1, (6 : Int), rfl, rfl, v2o, (by omega), (by omega), fun k21 ns22 lo24 hi25 ok23 => ?_⟩)))))
                refine ⟨_, rfl, (gp_int).of ⟨_, _, rfl, c_gt, fun hb => ?_, fun hb => gss_nil ?_⟩⟩
                · skip
                  refine gss_one (gs_set 8 nd ?_)
                  refine ((gp_intB a.b_int (gp_cmp (gp_var 5 rfl) (gp_var 7 rfl) c_le))).of ?_
                  exact ⟨(ns22, (if (decide ((i : Int) ≤ (j : Int))) then 1 else 0)), ⟨ok23, bitB _⟩, (by repeat (first | exact Wk.refl _ | exact Wk.nil | apply Wk.keep | apply Wk.drop)), rfl⟩
                · skip
                  exact ⟨(ns22, v2.2), ⟨ok23, v2b⟩, (by repeat (first | exact Wk.refl _ | exact Wk.nil | apply Wk.keep | apply Wk.drop)), rfl⟩
              · skip
                exact ⟨(v2.1, v2.2), ⟨v2o, v2b⟩, (by repeat (first | exact Wk.refl _ | exact Wk.nil | apply Wk.keep | apply Wk.drop)), rfl⟩
            · intro v3 hJ
              obtain ⟨v3o, v3b⟩ := hJ
              refine gss_one (gs_appO (f := PyData.int) (l := u.2) (y := v3.2) 6 rfl (gp_var 8 rfl) (.there .here) (by first | omega | assumption | (simp only [List.length_set, List.length_append, List.length_cons, List.length_nil, List.length_map, List.length_range]; omega)) ?_)
              exact ⟨(v3.1, u.2 ++ [v3.2]), ⟨v3o, by rw [List.length_append, i2]; rfl, i3.app v3b⟩, (by repeat (first | exact Wk.refl _ | exact Wk.nil | apply Wk.keep | apply Wk.drop)), rfl⟩
      · intro u hJ
        rw [List.length_range, Int.toNat_natCast] at hJ
        obtain ⟨i1, i2, i3⟩ := hJ
        refine GSs.perm (hs' := (p, oI u.1) :: (q, .lst (t.2.map fun r => EV.r r.1)) :: ((t.2.map fun r => (r.1, oI r.2)) ++ [(q2, oI u.2)])) ?_ (List.Perm.cons _ ((List.Perm.swap _ _ _).trans (List.Perm.cons _ (List.perm_append_singleton _ _).symm)))
        refine gss_one (gs_expr (ge_append (ge_var 4 rfl ⟨q, _, rfl, List.mem_cons_of_mem _ List.mem_cons_self, ge_var 6 rfl ⟨_, _, .there .here, ?_, ?_⟩⟩)))
        · rw [List.length_map, j2]
          exact Nat.lt_of_lt_of_le (by omega : i < 1000) (by decide)
        · refine ⟨(u.1, t.2 ++ [(q2, u.2)]), ⟨i1, by rw [List.length_append, j2]; rfl, fun r m => ?_⟩, (by repeat (first | exact Wk.refl _ | exact Wk.nil | apply Wk.keep | apply Wk.drop)), ?_⟩
          · rcases List.mem_append.mp m with m | m
            · exact j3 r m
            · rw [List.mem_singleton.mp m]; exact ⟨i2, i3⟩
          · simp only [rwsH, List.map_append]
            rfl
    · intro t hJ
      rw [List.length_range, Int.toNat_natCast] at hJ
      obtain ⟨j1, j2, j3⟩ := hJ
      refine gss_mid (fun v : List Int × Rws => ([some (.r p), some (.d (.int (m : Nat))), some (.d (.int (n : Nat))), some (.d (.int k1)), some (.r q), none, none, none, none] : Sl)) (fun v : List Int × Rws => ((p, oI v.1) :: rwsH q v.2 : Hs)) (fun v => POk v.1 ∧ v.2.length = m ∧ ∀ r ∈ v.2, r.2.length = n ∧ R01 r.2) ?_ ?_
      · skip
        refine  (gs_if (gt_cmp ?_))
        refine ge_c1 (c_law_take a) hr (ga_cons (ge_var 0 rfl (ga_cons ((gp_int).of (ga_nil ⟨rfl, _, _, rfl, p, t.1, (5 : Int), rfl, rfl, j1, (by omega), (by omega), fun k26 ns27 lo29 hi30 ok28 => ?_⟩)))))
        refine ⟨_, rfl, ?_⟩
        refine (gp_int).of ?_
        refine ⟨_, _, rfl, c_eqI, fun hb => ?_, fun hb => ?_⟩
        · skip
          refine gss_cons (gs_set 5 nd ?_)
          refine ge_c1 (c_law_take a) hr (ga_cons (ge_var 0 rfl (ga_cons (((gp_var 1 rfl)).of (ga_nil ⟨rfl, _, _, rfl, p, ns27, (m : Int), rfl, rfl, ok28, (by omega), (by omega), fun k31 ns32 lo34 hi35 ok33 => ?_⟩)))))
          refine gss_cons (gs_set 8 nd ?_)
          refine ge_c1 (c_law_take a) hr (ga_cons (ge_var 0 rfl (ga_cons ((gp_int).of (ga_nil ⟨rfl, _, _, rfl, p, ns32, (2 : Int), rfl, rfl, ok33, (by omega), (by omega), fun k36 ns37 lo39 hi40 ok38 => ?_⟩)))))
          have hs0 : k36 = 0 ∨ k36 = 1 := bit (by assumption) (by assumption)
          refine gss_one (gs_forT [7] ((List.range ((n : Int)).toNat)) (fun k : Nat => PyData.int (k : Int)) (fun u : Rws => ([some (.r p), some (.d (.int (m : Nat))), some (.d (.int (n : Nat))), some (.d (.int k1)), some (.r q), some (.d (.int k31)), none, none, some (.d (.int k36))] : Sl)) (fun u : Rws => ((p, oI ns37) :: rwsH q u : Hs)) (fun j u => u.length = m ∧ ∀ r ∈ u, r.2.length = n ∧ R01 r.2) t.2 pown rfl (gip_rng1 a.b_range (gp_var 2 rfl) ⟨(by first | omega | assumption), (by first | omega | assumption)⟩) (intR0 _) ?_ (by repeat (first | exact Wk.refl _ | exact Wk.nil | apply Wk.keep | apply Wk.drop)) rfl ?_ ?_)
          · exact ⟨j2, j3⟩
          · intro j y u hy hJ
            obtain ⟨rfl, hlt2⟩ := rng_get hy
            obtain ⟨u1, u2⟩ := hJ
            obtain ⟨kk, hkk⟩ := Int.eq_ofNat_of_zero_le (by assumption : 0 ≤ k31)
            have hkl : kk < u.length := by omega
            have hget : u[kk]? = some (u[kk].1, u[kk].2) := List.getElem?_eq_getElem hkl
            have hin := u2 _ (List.getElem_mem hkl)
            refine (gg_name 7 nd ?_)
            refine gss_cons (gs_set 6 nd (ge_ixO (ge_var 4 rfl ⟨q, rfl, (gp_var 5 rfl).of ⟨_, _, .r u[kk].1, rfl, List.mem_cons_of_mem _ List.mem_cons_self, ?_, ?_⟩⟩)))
            · rw [hkk]
              refine atI_nat ?_
              rw [List.getElem?_map, hget]
              rfl
            refine gss_one (gs_putO (f := PyData.int) (l := u[kk].2) (y := k36) 6 rfl (gp_var 8 rfl) (gp_var 7 rfl) (by omega) (by omega) (.there (.there (put_rows _ hget))) ?_)
            refine ⟨u.set kk (u[kk].1, u[kk].2.set (j : Int).toNat k36), ⟨by rw [List.length_set, u1], fun r m => ?_⟩, (by repeat (first | exact Wk.refl _ | exact Wk.nil | apply Wk.keep | apply Wk.drop)), ?_⟩
            · rcases List.mem_or_eq_of_mem_set m with m | m
              · exact u2 r m
              · rw [m]; exact ⟨by rw [List.length_set]; exact hin.1, hin.2.put hs0 _⟩
            · rw [rwsH, set_fst _ hget]
          · intro u hJ
            obtain ⟨u1, u2⟩ := hJ
            exact ⟨(ns37, u), ⟨ok38, u1, u2⟩, (by repeat (first | exact Wk.refl _ | exact Wk.nil | apply Wk.keep | apply Wk.drop)), rfl⟩
        · refine gss_nil ?_
          exact ⟨(ns27, t.2), ⟨ok28, j2, j3⟩, (by repeat (first | exact Wk.refl _ | exact Wk.nil | apply Wk.keep | apply Wk.drop)), rfl⟩
      · intro v hJ
        obtain ⟨j1, j2, j3⟩ := hJ
        refine GSs.freezeRows (f := PyData.int) (q := q) (rest := [(p, oI v.1)]) v.2 ?_ ((List.Perm.swap _ _ _).trans (List.Perm.cons _ (List.perm_append_singleton _ _).symm))
        refine GSs.freeze (ds := (v.2.map (·.2)).map fun l => PyData.list (l.map .int)) 4 ?_ rfl (by rw [ol_ds]; exact .here)
        refine gss_one (gs_ret (((gp_tuple a.b_tuple (gp_lcM [("row", 6)] (v.2.map (·.2)) (fun x : (List Int) => (.list (x.map PyData.int))) (fun x41 => x41) (fun x : (List Int) => (.tuple (x.map PyData.int))) rfl nd (gip_lst (gp_var 4 rfl)) rfl (szl (by first | (simp only [List.length_range, List.length_map, List.length_zipIdx, List.length_zip, List.length_mergeSort, List.length_take, Int.toNat_natCast]; omega) | omega | assumption)) (fun x41 hx41 s41 H41 C41 cl41 fp41 => (gg_name 6 nd ⟨rfl, fun s541 H541 C541 cl541 fp541 => (gp_tuple a.b_tuple (gp_var 6 rfl))⟩))))).of ?_))
        refine r _ _ ⟨by simp [j2], fun x hx => ?_, fun x hx => ?_⟩ j1
        all_goals
          obtain ⟨l, hl0, rfl⟩ := List.mem_map.mp hx
          obtain ⟨r0, hr0, rfl⟩ := List.mem_map.mp hl0
        · exact (j3 r0 hr0).1
        · exact (j3 r0 hr0).2
theorem perm4 {α : Type} (a b c d : α) : [a, b, c, d].Perm [d, a, c, b] :=
  (List.perm_append_comm (l₁ := [a, b, c]) (l₂ := [d])).trans (List.Perm.cons _ (List.Perm.cons _ (List.Perm.swap _ _ _)))
theorem getD_mem {α : Type} [Inhabited α] {l : List α} {k : Int} (h0 : 0 ≤ k) (h1 : k < l.length) : l.getD k.toNat default ∈ l := by
  have hn : k.toNat < l.length := by omega
  rw [List.getD_eq_getElem?_getD, List.getElem?_eq_getElem hn]
  exact List.getElem_mem hn
def SSteep : FS := fun args hs R => ∃ p ns c, args = [.r p, .d (cD c)] ∧ hs = [(p, oI ns)] ∧ POk ns ∧ OkC c ∧ (∀ ns', POk ns' → R (.d .none) [(p, oI ns')]) ∧ ∀ c' ns', OkC c' → POk ns' → R (.d (cD c')) [(p, oI ns')]
theorem nn_set {l : List Int} (h : ∀ x ∈ l, 0 ≤ x) (j : Nat) {y : Int} (hy : 0 ≤ y) : ∀ x ∈ l.set j y, 0 ≤ x := by
  intro x hx
  rcases List.mem_or_eq_of_mem_set hx with m | m
  · exact h x m
  · omega
theorem nn_get {l : List Int} (h : ∀ x ∈ l, 0 ≤ x) (j : Nat) : 0 ≤ l.getD j default := by
  rw [List.getD_eq_getElem?_getD]
  by_cases hj : j < l.length
  · rw [List.getElem?_eq_getElem hj]
    exact h _ (List.getElem_mem hj)
  · rw [List.getElem?_eq_none (by omega)]
    exact Int.le_refl _
theorem okc_of {c c' : CT} (h : OkC c) (l1 : c'.1.length = c.1.length) (l2 : c'.2.length = c.2.length) (n1 : ∀ x ∈ c'.1, 0 ≤ x) (n2 : ∀ x ∈ c'.2, 0 ≤ x) : OkC c' :=
  ⟨⟨by rw [l1]; exact h.ck.l1, by rw [l1]; exact h.ck.m1, by rw [l2]; exact h.ck.l2, by rw [l2]; exact h.ck.m2⟩, n1, n2⟩
theorem c_law_steeper (a : All K mg) : Callee P w K mg base 2 "_law_steeper" ["pool", "counts"] SSteep :=
  mkC a.d_law_steeper sc_law_steeper fun f cdv A outer s H E hr args hs R hl h => by
    have nd : (["pool", "counts", "sides", "side", "row", "ones", "one", "others", "other", "at"] : List Str).Nodup := by decide
    obtain ⟨p, ns, c, rfl, rfl, hok, hc, r0, r⟩ := h
    have m1 := hc.ck.m1
    have m2 := hc.ck.m2
    refine gss_cons (gs_set 2 nd (ge_new (ga_cons (ge_listO true a.b_list ((gp_ix (gp_var 1 rfl) gp_int (s_tup rfl)).of ⟨_, rfl, fun a1 => ga_cons (ge_listO true a.b_list ((gp_ix (gp_var 1 rfl) gp_int (s_tup rfl)).of ⟨_, rfl, fun a2 => ga_nil ⟨Nat.le_of_ble_eq_true rfl, fun q => ?_⟩⟩))⟩)))))
    rw [← ol_ds, ← ol_ds]
    refine GSs.perm (hs' := [(p, oI ns), (q, .lst [.r a1, .r a2]), (a1, oI c.1), (a2, oI c.2)]) ?_ (perm4 _ _ _ _)
    refine gss_cons (gs_set 3 nd ?_)
    refine ge_c1 (c_law_take a) hr (ga_cons (ge_var 0 rfl (ga_cons ((gp_int).of (ga_nil ⟨rfl, _, _, rfl, p, ns, (2 : Int), rfl, rfl, hok, (by omega), (by omega), fun k1 ns2 lo4 hi5 ok3 => ?_⟩)))))
    rcases bit (by assumption : 0 ≤ k1) (by assumption : k1 < 2) with rfl | rfl
    · skip
      refine gss_cons (gs_set 4 nd (ge_ixO (ge_var 2 rfl ⟨q, rfl, (gp_var 3 rfl).of ⟨_, _, .r a1, rfl, List.mem_cons_of_mem _ List.mem_cons_self, rfl, ?_⟩⟩)))
      refine gss_cons (GLc.putP (lp_lcIfM [("at", 9)] (List.range ((c.1.length : Int)).toNat) (fun k : Nat => PyData.int (k : Int)) (fun x6 => ((x6 : Nat) : Int)) PyData.int (fun x6 => (decide ((0 : Int) < (c.1.getD (((x6 : Nat) : Int)).toNat default)))) rfl nd (gip_rng1 a.b_range (gp_lenO (f := PyData.int) (l := c.1) 4 a.b_len rfl (List.mem_cons_of_mem _ (List.mem_cons_of_mem _ List.mem_cons_self))) ⟨(by first | omega | assumption), (by first | omega | assumption)⟩) (intR0 _) (szl (by first | (simp only [List.length_range, List.length_map, List.length_zipIdx, List.length_zip, List.length_mergeSort, List.length_take, Int.toNat_natCast]; omega) | omega | assumption)) (fun x6 hx6 s6 H6 C6 cl6 fp6 => (gg_name 9 nd ⟨rfl, fun s506 H506 C506 cl506 fp506 => ⟨(gtp_cmp (gp_atO (f := PyData.int) (l := c.1) 4 rfl (List.mem_cons_of_mem _ (List.mem_cons_of_mem _ List.mem_cons_self)) (gp_var 9 rfl) (by first | assumption | omega | (have := List.mem_range.mp (by assumption); omega) | (simp only [List.length_set]; omega)) (by first | assumption | omega | (have := List.mem_range.mp (by assumption); omega) | (simp only [List.length_set]; omega))) gp_int c_gt), fun hpx6 => (gp_var 9 rfl)⟩⟩))) 5 ?_)
      refine gss_cons (gs_if (((gtp_cmp (gp_lenLm a.b_len (gp_var 5 rfl)) gp_int c_eqI)).of ⟨fun hb => ?_, fun hb => ?_⟩))
      · exact GSs.wk (hs' := [(p, oI ns2)]) (gss_one (gs_ret (gp_non.of (r0 _ ok3)))) (Wk.refl _) (List.Sublist.cons₂ _ (List.nil_sublist _))
      · refine gss_nil ?_
        rw [decide_eq_false_iff_not] at hb
        have hle : ((((List.range ((c.1.length : Int)).toNat).filter (fun x6 => (decide ((0 : Int) < (c.1.getD (((x6 : Nat) : Int)).toNat default))))).map fun x6 => ((x6 : Nat) : Int))).length ≤ 100 := by rw [List.length_map]; exact Nat.le_trans (List.length_filter_le _ _) (by rw [List.length_range]; omega)
        refine gss_cons (gs_set 6 nd ?_)
        refine ge_ix ?_
        refine ((gp_var 5 rfl)).of ?_
        refine ⟨_, rfl, ?_⟩
        refine ge_c1 (c_law_take a) hr (ga_cons (ge_var 0 rfl (ga_cons (((gp_lenLm a.b_len (gp_var 5 rfl))).of (ga_nil ⟨rfl, _, _, rfl, p, ns2, ((((List.range ((c.1.length : Int)).toNat).filter (fun x6 => (decide ((0 : Int) < (c.1.getD (((x6 : Nat) : Int)).toNat default))))).map fun x6 => ((x6 : Nat) : Int)).length : Int), rfl, rfl, ok3, (by omega), (by omega), fun k7 ns8 lo10 hi11 ok9 => ?_⟩)))))
        refine ⟨_, _, rfl, (s_lst (at_map (f := PyData.int) (l := (((List.range ((c.1.length : Int)).toNat).filter (fun x6 => (decide ((0 : Int) < (c.1.getD (((x6 : Nat) : Int)).toNat default))))).map fun x6 => ((x6 : Nat) : Int))) (by first | assumption | omega | (have := List.mem_range.mp (by assumption); omega) | (simp only [List.length_set]; omega)) (by first | assumption | omega | (have := List.mem_range.mp (by assumption); omega) | (simp only [List.length_set]; omega)))), ?_⟩
        obtain ⟨i1, hi1, hv1⟩ := List.mem_map.mp (getD_mem (l := (((List.range ((c.1.length : Int)).toNat).filter (fun x6 => (decide ((0 : Int) < (c.1.getD (((x6 : Nat) : Int)).toNat default))))).map fun x6 => ((x6 : Nat) : Int))) (by assumption) (by assumption))
        rw [List.mem_filter, List.mem_range] at hi1
        obtain ⟨hi2, hi3⟩ := hi1
        have hi3 := of_decide_eq_true hi3
        rw [← hv1]
        refine gss_cons (GLc.putP (lp_lcIfM [("at", 9)] (List.range ((c.1.length : Int)).toNat) (fun k : Nat => PyData.int (k : Int)) (fun x12 => ((x12 : Nat) : Int)) PyData.int (fun x12 => ((!decide (((x12 : Nat) : Int) = (i1 : Int))) && ((decide ((c.1.getD ((i1 : Int)).toNat default) ≤ (c.1.getD (((x12 : Nat) : Int)).toNat default))) && (decide ((c.1.getD (((x12 : Nat) : Int)).toNat default) < (c.2.length : Int)))))) rfl nd (gip_rng1 a.b_range (gp_lenO (f := PyData.int) (l := c.1) 4 a.b_len rfl (List.mem_cons_of_mem _ (List.mem_cons_of_mem _ List.mem_cons_self))) ⟨(by first | omega | assumption), (by first | omega | assumption)⟩) (intR0 _) (szl (by first | (simp only [List.length_range, List.length_map, List.length_zipIdx, List.length_zip, List.length_mergeSort, List.length_take, Int.toNat_natCast]; omega) | omega | assumption)) (fun x12 hx12 s12 H12 C12 cl12 fp12 => (gg_name 9 nd ⟨rfl, fun s512 H512 C512 cl512 fp512 => ⟨(gwp_and (gtp_cmp (gp_var 9 rfl) (gp_var 6 rfl) c_neI) (fun hq13 => (gwp_and1 (gtp_chain (gp_atO (f := PyData.int) (l := c.1) 4 rfl (List.mem_cons_of_mem _ (List.mem_cons_of_mem _ List.mem_cons_self)) (gp_var 6 rfl) (by first | assumption | omega | (have := List.mem_range.mp (by assumption); omega) | (simp only [List.length_set]; omega)) (by first | assumption | omega | (have := List.mem_range.mp (by assumption); omega) | (simp only [List.length_set]; omega))) (gp_atO (f := PyData.int) (l := c.1) 4 rfl (List.mem_cons_of_mem _ (List.mem_cons_of_mem _ List.mem_cons_self)) (gp_var 9 rfl) (by first | assumption | omega | (have := List.mem_range.mp (by assumption); omega) | (simp only [List.length_set]; omega)) (by first | assumption | omega | (have := List.mem_range.mp (by assumption); omega) | (simp only [List.length_set]; omega))) c_le (fun _ => (ge_lenO (x := "len") a.b_len (ge_ixO (ge_var 2 rfl ⟨q, rfl, (gp_bin gp_int (gp_var 3 rfl) b_sub).of ⟨_, _, .r a2, rfl, List.mem_cons_of_mem _ List.mem_cons_self, rfl, a2, _, rfl, List.mem_cons_of_mem _ (List.mem_cons_of_mem _ (List.mem_cons_of_mem _ List.mem_cons_self)), by rw [List.length_map], rfl⟩⟩)))) (fun _ => c_lt))))).gt, fun hpx12 => (gp_var 9 rfl)⟩⟩))) 7 ?_)
        refine gss_cons (gs_if (((gtp_cmp (gp_lenLm a.b_len (gp_var 7 rfl)) gp_int c_eqI)).of ⟨fun hb2 => ?_, fun hb2 => ?_⟩))
        · exact GSs.wk (hs' := [(p, oI ns8)]) (gss_one (gs_ret (gp_non.of (r0 _ ok9)))) (Wk.refl _) (List.Sublist.cons₂ _ (List.nil_sublist _))
        · refine gss_nil ?_
          rw [decide_eq_false_iff_not] at hb2
          have hle2 : ((((List.range ((c.1.length : Int)).toNat).filter (fun x12 => ((!decide (((x12 : Nat) : Int) = (i1 : Int))) && ((decide ((c.1.getD ((i1 : Int)).toNat default) ≤ (c.1.getD (((x12 : Nat) : Int)).toNat default))) && (decide ((c.1.getD (((x12 : Nat) : Int)).toNat default) < (c.2.length : Int))))))).map fun x12 => ((x12 : Nat) : Int))).length ≤ 100 := by rw [List.length_map]; exact Nat.le_trans (List.length_filter_le _ _) (by rw [List.length_range]; omega)
          refine gss_cons (gs_set 8 nd ?_)
          refine ge_ix ?_
          refine ((gp_var 7 rfl)).of ?_
          refine ⟨_, rfl, ?_⟩
          refine ge_c1 (c_law_take a) hr (ga_cons (ge_var 0 rfl (ga_cons (((gp_lenLm a.b_len (gp_var 7 rfl))).of (ga_nil ⟨rfl, _, _, rfl, p, ns8, ((((List.range ((c.1.length : Int)).toNat).filter (fun x12 => ((!decide (((x12 : Nat) : Int) = (i1 : Int))) && ((decide ((c.1.getD ((i1 : Int)).toNat default) ≤ (c.1.getD (((x12 : Nat) : Int)).toNat default))) && (decide ((c.1.getD (((x12 : Nat) : Int)).toNat default) < (c.2.length : Int))))))).map fun x12 => ((x12 : Nat) : Int)).length : Int), rfl, rfl, ok9, (by omega), (by omega), fun k14 ns15 lo17 hi18 ok16 => ?_⟩)))))
          refine ⟨_, _, rfl, (s_lst (at_map (f := PyData.int) (l := (((List.range ((c.1.length : Int)).toNat).filter (fun x12 => ((!decide (((x12 : Nat) : Int) = (i1 : Int))) && ((decide ((c.1.getD ((i1 : Int)).toNat default) ≤ (c.1.getD (((x12 : Nat) : Int)).toNat default))) && (decide ((c.1.getD (((x12 : Nat) : Int)).toNat default) < (c.2.length : Int))))))).map fun x12 => ((x12 : Nat) : Int))) (by first | assumption | omega | (have := List.mem_range.mp (by assumption); omega) | (simp only [List.length_set]; omega)) (by first | assumption | omega | (have := List.mem_range.mp (by assumption); omega) | (simp only [List.length_set]; omega)))), ?_⟩
          obtain ⟨j1, hj1, hv2⟩ := List.mem_map.mp (getD_mem (l := (((List.range ((c.1.length : Int)).toNat).filter (fun x12 => ((!decide (((x12 : Nat) : Int) = (i1 : Int))) && ((decide ((c.1.getD ((i1 : Int)).toNat default) ≤ (c.1.getD (((x12 : Nat) : Int)).toNat default))) && (decide ((c.1.getD (((x12 : Nat) : Int)).toNat default) < (c.2.length : Int))))))).map fun x12 => ((x12 : Nat) : Int))) (by assumption) (by assumption))
          rw [List.mem_filter, List.mem_range] at hj1
          obtain ⟨hj2, hj3⟩ := hj1
          rw [← hv2]
          refine gss_cons (gs_putO (f := PyData.int) (l := c.1) (y := ((c.1.getD ((i1 : Int)).toNat default) - (1 : Int))) 4 rfl (gp_bin (gp_atO (f := PyData.int) (l := c.1) 4 rfl (List.mem_cons_of_mem _ (List.mem_cons_of_mem _ List.mem_cons_self)) (gp_var 6 rfl) (by first | assumption | omega | (have := List.mem_range.mp (by assumption); omega) | (simp only [List.length_set]; omega)) (by first | assumption | omega | (have := List.mem_range.mp (by assumption); omega) | (simp only [List.length_set]; omega))) gp_int b_sub) (gp_var 6 rfl) (by first | assumption | omega | (have := List.mem_range.mp (by assumption); omega) | (simp only [List.length_set]; omega)) (by first | assumption | omega | (have := List.mem_range.mp (by assumption); omega) | (simp only [List.length_set]; omega)) (.there (.there .here)) ?_)
          refine gss_cons (gs_putO (f := PyData.int) (l := (c.1.set ((i1 : Int)).toNat ((c.1.getD ((i1 : Int)).toNat default) - (1 : Int)))) (y := (((c.1.set ((i1 : Int)).toNat ((c.1.getD ((i1 : Int)).toNat default) - (1 : Int))).getD ((j1 : Int)).toNat default) + (1 : Int))) 4 rfl (gp_bin (gp_atO (f := PyData.int) (l := (c.1.set ((i1 : Int)).toNat ((c.1.getD ((i1 : Int)).toNat default) - (1 : Int)))) 4 rfl (List.mem_cons_of_mem _ (List.mem_cons_of_mem _ List.mem_cons_self)) (gp_var 8 rfl) (by first | assumption | omega | (have := List.mem_range.mp (by assumption); omega) | (simp only [List.length_set]; omega)) (by first | assumption | omega | (have := List.mem_range.mp (by assumption); omega) | (simp only [List.length_set]; omega))) gp_int b_add) (gp_var 8 rfl) (by first | assumption | omega | (have := List.mem_range.mp (by assumption); omega) | (simp only [List.length_set]; omega)) (by first | assumption | omega | (have := List.mem_range.mp (by assumption); omega) | (simp only [List.length_set]; omega)) (.there (.there .here)) ?_)
          refine GSs.freezeRows (f := PyData.int) (q := q) (rest := [(p, oI ns15)]) [(a1, ((c.1.set ((i1 : Int)).toNat ((c.1.getD ((i1 : Int)).toNat default) - (1 : Int))).set ((j1 : Int)).toNat (((c.1.set ((i1 : Int)).toNat ((c.1.getD ((i1 : Int)).toNat default) - (1 : Int))).getD ((j1 : Int)).toNat default) + (1 : Int)))), (a2, c.2)] ?_ ((List.Perm.swap _ _ _).trans (List.Perm.cons _ (List.perm_append_singleton _ _).symm))
          refine GSs.freeze (ds := [.list (((c.1.set ((i1 : Int)).toNat ((c.1.getD ((i1 : Int)).toNat default) - (1 : Int))).set ((j1 : Int)).toNat (((c.1.set ((i1 : Int)).toNat ((c.1.getD ((i1 : Int)).toNat default) - (1 : Int))).getD ((j1 : Int)).toNat default) + (1 : Int))).map .int), .list (c.2.map .int)]) 2 ?_ rfl .here
          refine gss_one (gs_ret (((gp_tup (gap_cons (gp_tuple a.b_tuple (gp_ix (gp_var 2 rfl) gp_int (s_lst rfl))) (gap_cons (gp_tuple a.b_tuple (gp_ix (gp_var 2 rfl) gp_int (s_lst rfl))) gap_nil)))).of ?_))
          refine r (((c.1.set ((i1 : Int)).toNat ((c.1.getD ((i1 : Int)).toNat default) - (1 : Int))).set ((j1 : Int)).toNat (((c.1.set ((i1 : Int)).toNat ((c.1.getD ((i1 : Int)).toNat default) - (1 : Int))).getD ((j1 : Int)).toNat default) + (1 : Int))), c.2) _ (okc_of hc ?_ ?_ ?_ ?_) ok16
          · simp only [List.length_set]
          · rfl
          · have e1 := nn_set hc.nn1 (i1 : Int).toNat (y := c.1.getD (i1 : Int).toNat default - 1) (by omega)
            exact nn_set e1 _ (by have := nn_get e1 (j1 : Int).toNat; omega)
          · exact hc.nn2
    · skip
      refine gss_cons (gs_set 4 nd (ge_ixO (ge_var 2 rfl ⟨q, rfl, (gp_var 3 rfl).of ⟨_, _, .r a2, rfl, List.mem_cons_of_mem _ List.mem_cons_self, rfl, ?_⟩⟩)))
      refine gss_cons (GLc.putP (lp_lcIfM [("at", 9)] (List.range ((c.2.length : Int)).toNat) (fun k : Nat => PyData.int (k : Int)) (fun x19 => ((x19 : Nat) : Int)) PyData.int (fun x19 => (decide ((0 : Int) < (c.2.getD (((x19 : Nat) : Int)).toNat default)))) rfl nd (gip_rng1 a.b_range (gp_lenO (f := PyData.int) (l := c.2) 4 a.b_len rfl (List.mem_cons_of_mem _ (List.mem_cons_of_mem _ (List.mem_cons_of_mem _ List.mem_cons_self)))) ⟨(by first | omega | assumption), (by first | omega | assumption)⟩) (intR0 _) (szl (by first | (simp only [List.length_range, List.length_map, List.length_zipIdx, List.length_zip, List.length_mergeSort, List.length_take, Int.toNat_natCast]; omega) | omega | assumption)) (fun x19 hx19 s19 H19 C19 cl19 fp19 => (gg_name 9 nd ⟨rfl, fun s519 H519 C519 cl519 fp519 => ⟨(gtp_cmp (gp_atO (f := PyData.int) (l := c.2) 4 rfl (List.mem_cons_of_mem _ (List.mem_cons_of_mem _ (List.mem_cons_of_mem _ List.mem_cons_self))) (gp_var 9 rfl) (by first | assumption | omega | (have := List.mem_range.mp (by assumption); omega) | (simp only [List.length_set]; omega)) (by first | assumption | omega | (have := List.mem_range.mp (by assumption); omega) | (simp only [List.length_set]; omega))) gp_int c_gt), fun hpx19 => (gp_var 9 rfl)⟩⟩))) 5 ?_)
      refine gss_cons (gs_if (((gtp_cmp (gp_lenLm a.b_len (gp_var 5 rfl)) gp_int c_eqI)).of ⟨fun hb => ?_, fun hb => ?_⟩))
      · exact GSs.wk (hs' := [(p, oI ns2)]) (gss_one (gs_ret (gp_non.of (r0 _ ok3)))) (Wk.refl _) (List.Sublist.cons₂ _ (List.nil_sublist _))
      · refine gss_nil ?_
        rw [decide_eq_false_iff_not] at hb
        have hle : ((((List.range ((c.2.length : Int)).toNat).filter (fun x19 => (decide ((0 : Int) < (c.2.getD (((x19 : Nat) : Int)).toNat default))))).map fun x19 => ((x19 : Nat) : Int))).length ≤ 100 := by rw [List.length_map]; exact Nat.le_trans (List.length_filter_le _ _) (by rw [List.length_range]; omega)
        refine gss_cons (gs_set 6 nd ?_)
        refine ge_ix ?_
        refine ((gp_var 5 rfl)).of ?_
        refine ⟨_, rfl, ?_⟩
        refine ge_c1 (c_law_take a) hr (ga_cons (ge_var 0 rfl (ga_cons (((gp_lenLm a.b_len (gp_var 5 rfl))).of (ga_nil ⟨rfl, _, _, rfl, p, ns2, ((((List.range ((c.2.length : Int)).toNat).filter (fun x19 => (decide ((0 : Int) < (c.2.getD (((x19 : Nat) : Int)).toNat default))))).map fun x19 => ((x19 : Nat) : Int)).length : Int), rfl, rfl, ok3, (by omega), (by omega), fun k20 ns21 lo23 hi24 ok22 => ?_⟩)))))
        refine ⟨_, _, rfl, (s_lst (at_map (f := PyData.int) (l := (((List.range ((c.2.length : Int)).toNat).filter (fun x19 => (decide ((0 : Int) < (c.2.getD (((x19 : Nat) : Int)).toNat default))))).map fun x19 => ((x19 : Nat) : Int))) (by first | assumption | omega | (have := List.mem_range.mp (by assumption); omega) | (simp only [List.length_set]; omega)) (by first | assumption | omega | (have := List.mem_range.mp (by assumption); omega) | (simp only [List.length_set]; omega)))), ?_⟩
        obtain ⟨i1, hi1, hv1⟩ := List.mem_map.mp (getD_mem (l := (((List.range ((c.2.length : Int)).toNat).filter (fun x19 => (decide ((0 : Int) < (c.2.getD (((x19 : Nat) : Int)).toNat default))))).map fun x19 => ((x19 : Nat) : Int))) (by assumption) (by assumption))
        rw [List.mem_filter, List.mem_range] at hi1
        obtain ⟨hi2, hi3⟩ := hi1
        have hi3 := of_decide_eq_true hi3
        rw [← hv1]
        refine gss_cons (GLc.putP (lp_lcIfM [("at", 9)] (List.range ((c.2.length : Int)).toNat) (fun k : Nat => PyData.int (k : Int)) (fun x25 => ((x25 : Nat) : Int)) PyData.int (fun x25 => ((!decide (((x25 : Nat) : Int) = (i1 : Int))) && ((decide ((c.2.getD ((i1 : Int)).toNat default) ≤ (c.2.getD (((x25 : Nat) : Int)).toNat default))) && (decide ((c.2.getD (((x25 : Nat) : Int)).toNat default) < (c.1.length : Int)))))) rfl nd (gip_rng1 a.b_range (gp_lenO (f := PyData.int) (l := c.2) 4 a.b_len rfl (List.mem_cons_of_mem _ (List.mem_cons_of_mem _ (List.mem_cons_of_mem _ List.mem_cons_self)))) ⟨(by first | omega | assumption), (by first | omega | assumption)⟩) (intR0 _) (szl (by first | (simp only [List.length_range, List.length_map, List.length_zipIdx, List.length_zip, List.length_mergeSort, List.length_take, Int.toNat_natCast]; omega) | omega | assumption)) (fun x25 hx25 s25 H25 C25 cl25 fp25 => (gg_name 9 nd ⟨rfl, fun s525 H525 C525 cl525 fp525 => ⟨(gwp_and (gtp_cmp (gp_var 9 rfl) (gp_var 6 rfl) c_neI) (fun hq26 => (gwp_and1 (gtp_chain (gp_atO (f := PyData.int) (l := c.2) 4 rfl (List.mem_cons_of_mem _ (List.mem_cons_of_mem _ (List.mem_cons_of_mem _ List.mem_cons_self))) (gp_var 6 rfl) (by first | assumption | omega | (have := List.mem_range.mp (by assumption); omega) | (simp only [List.length_set]; omega)) (by first | assumption | omega | (have := List.mem_range.mp (by assumption); omega) | (simp only [List.length_set]; omega))) (gp_atO (f := PyData.int) (l := c.2) 4 rfl (List.mem_cons_of_mem _ (List.mem_cons_of_mem _ (List.mem_cons_of_mem _ List.mem_cons_self))) (gp_var 9 rfl) (by first | assumption | omega | (have := List.mem_range.mp (by assumption); omega) | (simp only [List.length_set]; omega)) (by first | assumption | omega | (have := List.mem_range.mp (by assumption); omega) | (simp only [List.length_set]; omega))) c_le (fun _ => (ge_lenO (x := "len") a.b_len (ge_ixO (ge_var 2 rfl ⟨q, rfl, (gp_bin gp_int (gp_var 3 rfl) b_sub).of ⟨_, _, .r a1, rfl, List.mem_cons_of_mem _ List.mem_cons_self, rfl, a1, _, rfl, List.mem_cons_of_mem _ (List.mem_cons_of_mem _ List.mem_cons_self), by rw [List.length_map], rfl⟩⟩)))) (fun _ => c_lt))))).gt, fun hpx25 => (gp_var 9 rfl)⟩⟩))) 7 ?_)
        refine gss_cons (gs_if (((gtp_cmp (gp_lenLm a.b_len (gp_var 7 rfl)) gp_int c_eqI)).of ⟨fun hb2 => ?_, fun hb2 => ?_⟩))
        · exact GSs.wk (hs' := [(p, oI ns21)]) (gss_one (gs_ret (gp_non.of (r0 _ ok22)))) (Wk.refl _) (List.Sublist.cons₂ _ (List.nil_sublist _))
        · refine gss_nil ?_
          rw [decide_eq_false_iff_not] at hb2
          have hle2 : ((((List.range ((c.2.length : Int)).toNat).filter (fun x25 => ((!decide (((x25 : Nat) : Int) = (i1 : Int))) && ((decide ((c.2.getD ((i1 : Int)).toNat default) ≤ (c.2.getD (((x25 : Nat) : Int)).toNat default))) && (decide ((c.2.getD (((x25 : Nat) : Int)).toNat default) < (c.1.length : Int))))))).map fun x25 => ((x25 : Nat) : Int))).length ≤ 100 := by rw [List.length_map]; exact Nat.le_trans (List.length_filter_le _ _) (by rw [List.length_range]; omega)
          refine gss_cons (gs_set 8 nd ?_)
          refine ge_ix ?_
          refine ((gp_var 7 rfl)).of ?_
          refine ⟨_, rfl, ?_⟩
          refine ge_c1 (c_law_take a) hr (ga_cons (ge_var 0 rfl (ga_cons (((gp_lenLm a.b_len (gp_var 7 rfl))).of (ga_nil ⟨rfl, _, _, rfl, p, ns21, ((((List.range ((c.2.length : Int)).toNat).filter (fun x25 => ((!decide (((x25 : Nat) : Int) = (i1 : Int))) && ((decide ((c.2.getD ((i1 : Int)).toNat default) ≤ (c.2.getD (((x25 : Nat) : Int)).toNat default))) && (decide ((c.2.getD (((x25 : Nat) : Int)).toNat default) < (c.1.length : Int))))))).map fun x25 => ((x25 : Nat) : Int)).length : Int), rfl, rfl, ok22, (by omega), (by omega), fun k27 ns28 lo30 hi31 ok29 => ?_⟩)))))
          refine ⟨_, _, rfl, (s_lst (at_map (f := PyData.int) (l := (((List.range ((c.2.length : Int)).toNat).filter (fun x25 => ((!decide (((x25 : Nat) : Int) = (i1 : Int))) && ((decide ((c.2.getD ((i1 : Int)).toNat default) ≤ (c.2.getD (((x25 : Nat) : Int)).toNat default))) && (decide ((c.2.getD (((x25 : Nat) : Int)).toNat default) < (c.1.length : Int))))))).map fun x25 => ((x25 : Nat) : Int))) (by first | assumption | omega | (have := List.mem_range.mp (by assumption); omega) | (simp only [List.length_set]; omega)) (by first | assumption | omega | (have := List.mem_range.mp (by assumption); omega) | (simp only [List.length_set]; omega)))), ?_⟩
          obtain ⟨j1, hj1, hv2⟩ := List.mem_map.mp (getD_mem (l := (((List.range ((c.2.length : Int)).toNat).filter (fun x25 => ((!decide (((x25 : Nat) : Int) = (i1 : Int))) && ((decide ((c.2.getD ((i1 : Int)).toNat default) ≤ (c.2.getD (((x25 : Nat) : Int)).toNat default))) && (decide ((c.2.getD (((x25 : Nat) : Int)).toNat default) < (c.1.length : Int))))))).map fun x25 => ((x25 : Nat) : Int))) (by assumption) (by assumption))
          rw [List.mem_filter, List.mem_range] at hj1
          obtain ⟨hj2, hj3⟩ := hj1
          rw [← hv2]
          refine gss_cons (gs_putO (f := PyData.int) (l := c.2) (y := ((c.2.getD ((i1 : Int)).toNat default) - (1 : Int))) 4 rfl (gp_bin (gp_atO (f := PyData.int) (l := c.2) 4 rfl (List.mem_cons_of_mem _ (List.mem_cons_of_mem _ (List.mem_cons_of_mem _ List.mem_cons_self))) (gp_var 6 rfl) (by first | assumption | omega | (have := List.mem_range.mp (by assumption); omega) | (simp only [List.length_set]; omega)) (by first | assumption | omega | (have := List.mem_range.mp (by assumption); omega) | (simp only [List.length_set]; omega))) gp_int b_sub) (gp_var 6 rfl) (by first | assumption | omega | (have := List.mem_range.mp (by assumption); omega) | (simp only [List.length_set]; omega)) (by first | assumption | omega | (have := List.mem_range.mp (by assumption); omega) | (simp only [List.length_set]; omega)) (.there (.there (.there .here))) ?_)
          refine gss_cons (gs_putO (f := PyData.int) (l := (c.2.set ((i1 : Int)).toNat ((c.2.getD ((i1 : Int)).toNat default) - (1 : Int)))) (y := (((c.2.set ((i1 : Int)).toNat ((c.2.getD ((i1 : Int)).toNat default) - (1 : Int))).getD ((j1 : Int)).toNat default) + (1 : Int))) 4 rfl (gp_bin (gp_atO (f := PyData.int) (l := (c.2.set ((i1 : Int)).toNat ((c.2.getD ((i1 : Int)).toNat default) - (1 : Int)))) 4 rfl (List.mem_cons_of_mem _ (List.mem_cons_of_mem _ (List.mem_cons_of_mem _ List.mem_cons_self))) (gp_var 8 rfl) (by first | assumption | omega | (have := List.mem_range.mp (by assumption); omega) | (simp only [List.length_set]; omega)) (by first | assumption | omega | (have := List.mem_range.mp (by assumption); omega) | (simp only [List.length_set]; omega))) gp_int b_add) (gp_var 8 rfl) (by first | assumption | omega | (have := List.mem_range.mp (by assumption); omega) | (simp only [List.length_set]; omega)) (by first | assumption | omega | (have := List.mem_range.mp (by assumption); omega) | (simp only [List.length_set]; omega)) (.there (.there (.there .here))) ?_)
          refine GSs.freezeRows (f := PyData.int) (q := q) (rest := [(p, oI ns28)]) [(a1, c.1), (a2, ((c.2.set ((i1 : Int)).toNat ((c.2.getD ((i1 : Int)).toNat default) - (1 : Int))).set ((j1 : Int)).toNat (((c.2.set ((i1 : Int)).toNat ((c.2.getD ((i1 : Int)).toNat default) - (1 : Int))).getD ((j1 : Int)).toNat default) + (1 : Int))))] ?_ ((List.Perm.swap _ _ _).trans (List.Perm.cons _ (List.perm_append_singleton _ _).symm))
          refine GSs.freeze (ds := [.list (c.1.map .int), .list (((c.2.set ((i1 : Int)).toNat ((c.2.getD ((i1 : Int)).toNat default) - (1 : Int))).set ((j1 : Int)).toNat (((c.2.set ((i1 : Int)).toNat ((c.2.getD ((i1 : Int)).toNat default) - (1 : Int))).getD ((j1 : Int)).toNat default) + (1 : Int))).map .int)]) 2 ?_ rfl .here
          refine gss_one (gs_ret (((gp_tup (gap_cons (gp_tuple a.b_tuple (gp_ix (gp_var 2 rfl) gp_int (s_lst rfl))) (gap_cons (gp_tuple a.b_tuple (gp_ix (gp_var 2 rfl) gp_int (s_lst rfl))) gap_nil)))).of ?_))
          refine r (c.1, ((c.2.set ((i1 : Int)).toNat ((c.2.getD ((i1 : Int)).toNat default) - (1 : Int))).set ((j1 : Int)).toNat (((c.2.set ((i1 : Int)).toNat ((c.2.getD ((i1 : Int)).toNat default) - (1 : Int))).getD ((j1 : Int)).toNat default) + (1 : Int)))) _ (okc_of hc ?_ ?_ ?_ ?_) ok29
          · rfl
          · simp only [List.length_set]
          · exact hc.nn1
          · have e1 := nn_set hc.nn2 (i1 : Int).toNat (y := c.2.getD (i1 : Int).toNat default - 1) (by omega)
            exact nn_set e1 _ (by have := nn_get e1 (j1 : Int).toNat; omega)
def SClimb : FS := fun args hs R => ∃ p ns c, args = [.r p, .d (cD c)] ∧ hs = [(p, oI ns)] ∧ POk ns ∧ OkC c ∧ (∀ c1 ns', OkC c1 → POk ns' → R (.d (.tuple [cD c1, .none])) [(p, oI ns')]) ∧ ∀ c1 c2 ns', OkC c1 → OkC c2 → POk ns' → R (.d (.tuple [cD c1, cD c2])) [(p, oI ns')]
theorem c_law_climb (a : All K mg) : Callee P w K mg base 4 "_law_climb" ["pool", "counts"] SClimb :=
  mkC a.d_law_climb sc_law_climb fun f cdv A outer s H E hr args hs R hl h => by
    have nd : (["pool", "counts", "held", "lap", "steeper"] : List Str).Nodup := by decide
    obtain ⟨p, ns, c, rfl, rfl, hok, hc, r1, r2⟩ := h
    refine gss_cons (gs_set 2 nd (((gp_var 1 rfl)).of ?_))
    refine gss_cons (gs_forT [3] ((List.range ((60 : Int)).toNat)) (fun k : Nat => PyData.int (k : Int)) (fun t : List Int × CT => ([some (.r p), some (.d (cD c)), some (.d (cD t.2)), none, none] : Sl)) (fun t : List Int × CT => ([(p, oI t.1)] : Hs)) (fun i t => POk t.1 ∧ OkC t.2) (ns, c) pown rfl (gip_rng1 a.b_range gp_int ⟨(by first | omega | assumption), (by first | omega | assumption)⟩) (intR0 _) ?_ (by repeat (first | exact Wk.refl _ | exact Wk.nil | apply Wk.keep | apply Wk.drop)) rfl ?_ ?_)
    · exact ⟨hok, hc⟩
    · intro i x t hx hJ
      obtain ⟨j1, j2⟩ := hJ
      have hck := j2.ck
      refine (gg_name 3 nd ?_)
      refine gss_cons (gs_set 4 nd (ge_c1 (c_law_steeper a) hr (ga_cons (ge_var 0 rfl (ga_cons ((gp_var 2 rfl).of (ga_nil ⟨rfl, _, _, rfl, p, t.1, t.2, rfl, rfl, j1, j2, fun ns1 ok1 => ?_, fun c1 ns1 hc1 ok1 => ?_⟩)))))))
      · skip
        refine gss_cons (gs_if ((GT.is (d' := false) (gwp_and (u := false) (gtp_cmp (gp_var 4 rfl) gp_non c_notN) (fun h => absurd h (by simp))).gt (by simp)).of ⟨fun h => (nomatch h), fun _ => gss_nil ?_⟩))
        refine gss_one (gs_if ((GT.is (d' := false) (gtp_cmp (gp_var 4 rfl) gp_non c_notN) (by simp)).of ⟨fun h => (nomatch h), fun _ => gss_nil ?_⟩))
        exact ⟨(ns1, t.2), ⟨ok1, j2⟩, (by repeat (first | exact Wk.refl _ | exact Wk.nil | apply Wk.keep | apply Wk.drop)), rfl⟩
      · skip
        refine gss_cons (gs_if (((gwp_and (gtp_cmp (gp_var 4 rfl) gp_non c_notN) (fun hq1 => (gwp_and1 (gtp_cmp (gp_c (c_law_lowest a) (by exact hr) (gap_cons (gp_var 4 rfl) gap_nil) (pF1 c1 hc1.ck)) gp_int c_lt)))).gt).of ⟨fun hb => ?_, fun hb => ?_⟩))
        · skip
          refine gss_one (gs_ret (((gp_tup (gap_cons (gp_var 2 rfl) (gap_cons (gp_var 4 rfl) gap_nil)))).of ?_))
          exact r2 _ _ _ j2 hc1 ok1
        · refine gss_nil ?_
          refine gss_one (gs_if ((GT.is (d' := true) (gtp_cmp (gp_var 4 rfl) gp_non c_notN) (by simp)).of ⟨fun _ => ?_, fun h => (nomatch h)⟩))
          refine gss_one (gs_set 2 nd (((gp_var 4 rfl)).of ?_))
          exact ⟨(ns1, c1), ⟨ok1, hc1⟩, (by repeat (first | exact Wk.refl _ | exact Wk.nil | apply Wk.keep | apply Wk.drop)), rfl⟩
    · intro t hJ
      obtain ⟨j1, j2⟩ := hJ
      refine gss_one (gs_ret (((gp_tup (gap_cons (gp_var 2 rfl) (gap_cons gp_non gap_nil)))).of ?_))
      exact r1 _ _ j2 j1
def SWide : FS := fun args hs R => ∃ p ns, args = [.r p] ∧ hs = [(p, oI ns)] ∧ POk ns ∧ ∀ W m n ns', Tab W m n → 1 ≤ m → m ≤ 100 → 1 ≤ n → n ≤ 100 → POk ns' → R (.d (tW W)) [(p, oI ns')]
theorem len_drawn {a b : Int} (h0 : 0 ≤ a) (h1 : a < 5) (h2 : 0 ≤ b) (h3 : b < 2) : 1 ≤ 12 - a * b ∧ 12 - a * b ≤ 12 := by
  rcases bit h2 h3 with rfl | rfl <;> omega
theorem steps_in {k : Int} (h0 : 0 ≤ k) (h1 : k < 4) : 0 ≤ [(1 : Int), 5, 7, 11].getD k.toNat default ∧ [(1 : Int), 5, 7, 11].getD k.toNat default ≤ 11 := by
  obtain ⟨j, rfl⟩ := Int.eq_ofNat_of_zero_le h0
  have : j = 0 ∨ j = 1 ∨ j = 2 ∨ j = 3 := by omega
  rcases this with rfl | rfl | rfl | rfl <;> decide
/-- a table by a rule -/
theorem tab_rule (m n : Nat) (f : Nat → Nat → Bool) : Tab ((List.range m).map fun i => (List.range n).map fun j => if f i j then 1 else 0) m n := by
  refine ⟨by simp, fun x hx => ?_, fun x hx y hy => ?_⟩
  · obtain ⟨i, _, rfl⟩ := List.mem_map.mp hx
    simp
  · obtain ⟨i, _, rfl⟩ := List.mem_map.mp hx
    obtain ⟨j, _, rfl⟩ := List.mem_map.mp hy
    split
    · exact .inr rfl
    · exact .inl rfl
theorem tab_blocks {A B : List (List Int)} {m1 n1 m2 n2 : Nat} (a : Tab A m1 n1) (b : Tab B m2 n2) : Tab ((A.map fun x => x ++ List.replicate n2 1) ++ B.map fun x => List.replicate n1 0 ++ x) (m1 + m2) (n1 + n2) := by
  refine ⟨by simp [a.l, b.l], fun x hx => ?_, fun x hx y hy => ?_⟩
  · rcases List.mem_append.mp hx with m | m
    · obtain ⟨z, hz, rfl⟩ := List.mem_map.mp m
      simp [a.r z hz]
    · obtain ⟨z, hz, rfl⟩ := List.mem_map.mp m
      simp [b.r z hz]
  · rcases List.mem_append.mp hx with m | m
    · obtain ⟨z, hz, rfl⟩ := List.mem_map.mp m
      rcases List.mem_append.mp hy with m | m
      · exact a.e z hz y m
      · exact .inr (List.eq_of_mem_replicate m)
    · obtain ⟨z, hz, rfl⟩ := List.mem_map.mp m
      rcases List.mem_append.mp hy with m | m
      · exact .inl (List.eq_of_mem_replicate m)
      · exact b.e z hz y m
theorem c_law_wide (a : All K mg) : Callee P w K mg base 3 "_law_wide" ["pool"] SWide :=
  mkC a.d_law_wide sc_law_wide fun f cdv A outer s H E hr args hs R hl h => by
    have nd : (["pool", "warps", "wefts", "kind", "step", "over", "shift", "one", "other", "warp", "weft", "row"] : List Str).Nodup := by decide
    obtain ⟨p, ns, rfl, rfl, hok, r⟩ := h
    refine gss_cons (gs_set 1 nd ?_)
    refine ge_bin ?_
    refine (gp_int).of ?_
    refine ⟨_, rfl, ?_⟩
    refine ge_bin ?_
    refine ge_c1 (c_law_take a) hr (ga_cons (ge_var 0 rfl (ga_cons ((gp_int).of (ga_nil ⟨rfl, _, _, rfl, p, ns, (5 : Int), rfl, rfl, hok, (by omega), (by omega), fun k1 ns2 lo4 hi5 ok3 => ?_⟩)))))
    refine ⟨_, rfl, ?_⟩
    refine ge_c1 (c_law_take a) hr (ga_cons (ge_var 0 rfl (ga_cons ((gp_int).of (ga_nil ⟨rfl, _, _, rfl, p, ns2, (2 : Int), rfl, rfl, ok3, (by omega), (by omega), fun k6 ns7 lo9 hi10 ok8 => ?_⟩)))))
    refine ⟨_, _, rfl, (b_mul (by first | exact .inl (by omega) | exact .inr (by omega))), ?_⟩
    refine ⟨_, _, rfl, b_sub, ?_⟩
    have hd_warps := len_drawn (by assumption : 0 ≤ k1) (by assumption) (by assumption : 0 ≤ k6) (by assumption)
    obtain ⟨warps, hwarps⟩ := Int.eq_ofNat_of_zero_le (by omega : 0 ≤ ((12 : Int) - (k1 * k6)))
    rw [hwarps]
    rw [hwarps] at hd_warps
    refine gss_cons (gs_set 2 nd ?_)
    refine ge_bin ?_
    refine (gp_int).of ?_
    refine ⟨_, rfl, ?_⟩
    refine ge_bin ?_
    refine ge_c1 (c_law_take a) hr (ga_cons (ge_var 0 rfl (ga_cons ((gp_int).of (ga_nil ⟨rfl, _, _, rfl, p, ns7, (5 : Int), rfl, rfl, ok8, (by omega), (by omega), fun k11 ns12 lo14 hi15 ok13 => ?_⟩)))))
    refine ⟨_, rfl, ?_⟩
    refine ge_c1 (c_law_take a) hr (ga_cons (ge_var 0 rfl (ga_cons ((gp_int).of (ga_nil ⟨rfl, _, _, rfl, p, ns12, (2 : Int), rfl, rfl, ok13, (by omega), (by omega), fun k16 ns17 lo19 hi20 ok18 => ?_⟩)))))
    refine ⟨_, _, rfl, (b_mul (by first | exact .inl (by omega) | exact .inr (by omega))), ?_⟩
    refine ⟨_, _, rfl, b_sub, ?_⟩
    have hd_wefts := len_drawn (by assumption : 0 ≤ k11) (by assumption) (by assumption : 0 ≤ k16) (by assumption)
    obtain ⟨wefts, hwefts⟩ := Int.eq_ofNat_of_zero_le (by omega : 0 ≤ ((12 : Int) - (k11 * k16)))
    rw [hwefts]
    rw [hwefts] at hd_wefts
    refine gss_cons (gs_set 3 nd ?_)
    refine ge_c1 (c_law_take a) hr (ga_cons (ge_var 0 rfl (ga_cons ((gp_int).of (ga_nil ⟨rfl, _, _, rfl, p, ns17, (4 : Int), rfl, rfl, ok18, (by omega), (by omega), fun k21 ns22 lo24 hi25 ok23 => ?_⟩)))))
    refine gss_cons (gs_if (((gtp_cmp (gp_var 3 rfl) gp_int c_eqI)).of ⟨fun hb => ?_, fun hb => ?_⟩))
    · skip
      exact gss_one (gs_ret (ge_c1 (c_law_weave a) hr (ga_cons (ge_var 0 rfl (ga_cons ((gp_var 1 rfl).of (ga_cons ((gp_var 2 rfl).of (ga_nil ⟨rfl, _, _, rfl, p, ns22, warps, wefts, rfl, rfl, ok23, by omega, by omega, by omega, by omega, fun W ns9 tb9 ok9 => r W warps wefts ns9 tb9 (by omega) (by omega) (by omega) (by omega) ok9⟩)))))))))
    · refine gss_nil ?_
      refine gss_cons (gs_if (((gtp_cmp (gp_var 3 rfl) gp_int c_eqI)).of ⟨fun hb1 => ?_, fun hb1 => ?_⟩))
      · skip
        refine gss_cons (gs_set 4 nd ?_)
        refine ge_ix ?_
        refine ((gp_tup (gap_cons gp_int (gap_cons gp_int (gap_cons gp_int (gap_cons gp_int gap_nil)))))).of ?_
        refine ⟨_, rfl, ?_⟩
        refine ge_c1 (c_law_take a) hr (ga_cons (ge_var 0 rfl (ga_cons ((gp_int).of (ga_nil ⟨rfl, _, _, rfl, p, ns22, (4 : Int), rfl, rfl, ok23, (by omega), (by omega), fun k26 ns27 lo29 hi30 ok28 => ?_⟩)))))
        refine ⟨_, _, rfl, (s_tup (at_map (f := PyData.int) (l := [(1 : Int), (5 : Int), (7 : Int), (11 : Int)]) (by first | assumption | omega | (simp only [List.length_set, List.length_append, List.length_cons, List.length_nil, List.length_map, List.length_range]; omega)) (by first | assumption | omega | (simp only [List.length_set, List.length_append, List.length_cons, List.length_nil, List.length_map, List.length_range]; omega)))), ?_⟩
        have hst := steps_in (by assumption : 0 ≤ k26) (by assumption)
        obtain ⟨sv, hsv⟩ : ∃ z : Int, z = ([(1 : Int), (5 : Int), (7 : Int), (11 : Int)].getD (k26).toNat default) := ⟨_, rfl⟩
        rw [← hsv] at hst ⊢
        refine gss_cons (gs_set 5 nd ?_)
        refine ge_bin ?_
        refine (gp_int).of ?_
        refine ⟨_, rfl, ?_⟩
        refine ge_c1 (c_law_take a) hr (ga_cons (ge_var 0 rfl (ga_cons ((gp_int).of (ga_nil ⟨rfl, _, _, rfl, p, ns27, (11 : Int), rfl, rfl, ok28, (by omega), (by omega), fun k31 ns32 lo34 hi35 ok33 => ?_⟩)))))
        refine ⟨_, _, rfl, b_add, ?_⟩
        refine gss_one (gs_ret (((gp_tuple a.b_tuple (gp_lcM [("warp", 9)] (List.range ((12 : Int)).toNat) (fun k : Nat => PyData.int (k : Int)) (fun x36 => ((List.range ((12 : Int)).toNat).map fun x37 => (if (decide (((((x37 : Nat) : Int) - (sv * ((x36 : Nat) : Int))) % (12 : Int)) < ((1 : Int) + k31))) then 1 else 0))) (fun x : (List Int) => (.tuple (x.map PyData.int))) rfl nd (gip_rng1 a.b_range gp_int ⟨(by first | omega | assumption), (by first | omega | assumption)⟩) (intR0 _) (szl (by first | (simp only [List.length_range, List.length_map, List.length_zipIdx, List.length_zip, List.length_mergeSort, List.length_take, Int.toNat_natCast]; omega) | omega | assumption)) (fun x36 hx36 s36 H36 C36 cl36 fp36 => (gg_name 9 nd ⟨rfl, fun s536 H536 C536 cl536 fp536 => (gp_tuple a.b_tuple (gp_lcM [("weft", 10)] (List.range ((12 : Int)).toNat) (fun k : Nat => PyData.int (k : Int)) (fun x37 => (if (decide (((((x37 : Nat) : Int) - (sv * ((x36 : Nat) : Int))) % (12 : Int)) < ((1 : Int) + k31))) then 1 else 0)) PyData.int rfl nd (gip_rng1 a.b_range gp_int ⟨(by first | omega | assumption), (by first | omega | assumption)⟩) (intR0 _) (szl (by first | (simp only [List.length_range, List.length_map, List.length_zipIdx, List.length_zip, List.length_mergeSort, List.length_take, Int.toNat_natCast]; omega) | omega | assumption)) (fun x37 hx37 s37 H37 C37 cl37 fp37 => (gg_name 10 nd ⟨rfl, fun s537 H537 C537 cl537 fp537 => (gp_intB a.b_int (gp_cmp (gp_bin (gp_int1 a.b_int (gp_bin (gp_var 10 rfl) (gp_bin (gp_var 4 rfl) (gp_var 9 rfl) (b_mul (by first | exact .inl (by omega) | exact .inr (by omega)))) b_sub)) gp_int (b_mod (by first | assumption | omega | (simp only [List.length_set, List.length_append, List.length_cons, List.length_nil, List.length_map, List.length_range]; omega)))) (gp_var 5 rfl) c_lt))⟩))))⟩))))).of ?_))
        exact r _ _ _ _ (tab_rule 12 12 _) (by decide) (by decide) (by decide) (by decide) ok33
      · refine gss_nil ?_
        refine gss_cons (gs_if (((gtp_cmp (gp_var 3 rfl) gp_int c_eqI)).of ⟨fun hb2 => ?_, fun hb2 => ?_⟩))
        · skip
          refine gss_cons (gs_set 6 nd ?_)
          refine ge_c1 (c_law_take a) hr (ga_cons (ge_var 0 rfl (ga_cons ((gp_int).of (ga_nil ⟨rfl, _, _, rfl, p, ns22, (4 : Int), rfl, rfl, ok23, (by omega), (by omega), fun k38 ns39 lo41 hi42 ok40 => ?_⟩)))))
          refine gss_one (gs_ret (((gp_tuple a.b_tuple (gp_lcM [("warp", 9)] (List.range ((warps : Int)).toNat) (fun k : Nat => PyData.int (k : Int)) (fun x43 => ((List.range ((wefts : Int)).toNat).map fun x44 => (if (decide (((x43 : Nat) : Int) ≤ (((x44 : Nat) : Int) + k38))) then 1 else 0))) (fun x : (List Int) => (.tuple (x.map PyData.int))) rfl nd (gip_rng1 a.b_range (gp_var 1 rfl) ⟨(by first | omega | assumption), (by first | omega | assumption)⟩) (intR0 _) (szl (by first | (simp only [List.length_range, List.length_map, List.length_zipIdx, List.length_zip, List.length_mergeSort, List.length_take, Int.toNat_natCast]; omega) | omega | assumption)) (fun x43 hx43 s43 H43 C43 cl43 fp43 => (gg_name 9 nd ⟨rfl, fun s543 H543 C543 cl543 fp543 => (gp_tuple a.b_tuple (gp_lcM [("weft", 10)] (List.range ((wefts : Int)).toNat) (fun k : Nat => PyData.int (k : Int)) (fun x44 => (if (decide (((x43 : Nat) : Int) ≤ (((x44 : Nat) : Int) + k38))) then 1 else 0)) PyData.int rfl nd (gip_rng1 a.b_range (gp_var 2 rfl) ⟨(by first | omega | assumption), (by first | omega | assumption)⟩) (intR0 _) (szl (by first | (simp only [List.length_range, List.length_map, List.length_zipIdx, List.length_zip, List.length_mergeSort, List.length_take, Int.toNat_natCast]; omega) | omega | assumption)) (fun x44 hx44 s44 H44 C44 cl44 fp44 => (gg_name 10 nd ⟨rfl, fun s544 H544 C544 cl544 fp544 => (gp_intB a.b_int (gp_cmp (gp_var 9 rfl) (gp_bin (gp_var 10 rfl) (gp_var 6 rfl) b_add) c_le))⟩))))⟩))))).of ?_))
          exact r _ _ _ _ (tab_rule warps wefts _) (by omega) (by omega) (by omega) (by omega) ok40
        · refine gss_nil ?_
          refine gss_cons (gs_set 7 nd ?_)
          refine ge_c1 (c_law_weave a) hr (ga_cons (ge_var 0 rfl (ga_cons ?_)))
          refine ge_bin ?_
          refine (gp_int).of ?_
          refine ⟨_, rfl, ?_⟩
          refine ge_c1 (c_law_take a) hr (ga_cons (ge_var 0 rfl (ga_cons ((gp_int).of (ga_nil ⟨rfl, _, _, rfl, p, ns22, (6 : Int), rfl, rfl, ok23, (by omega), (by omega), fun k45 ns46 lo48 hi49 ok47 => ?_⟩)))))
          refine ⟨_, _, rfl, b_add, ?_⟩
          refine ga_cons ?_
          refine ge_bin ?_
          refine (gp_int).of ?_
          refine ⟨_, rfl, ?_⟩
          refine ge_c1 (c_law_take a) hr (ga_cons (ge_var 0 rfl (ga_cons ((gp_int).of (ga_nil ⟨rfl, _, _, rfl, p, ns46, (6 : Int), rfl, rfl, ok47, (by omega), (by omega), fun k50 ns51 lo53 hi54 ok52 => ?_⟩)))))
          refine ⟨_, _, rfl, b_add, ?_⟩
          refine ga_nil ⟨rfl, _, _, rfl, p, ns51, (((1 : Int) + k45)).toNat, (((1 : Int) + k50)).toNat, (by rw [Int.toNat_of_nonneg (by omega), Int.toNat_of_nonneg (by omega)]), rfl, ok52, by omega, by omega, by omega, by omega, fun W55 ns56 tb58 ok57 => ?_⟩
          refine gss_cons (gs_set 8 nd ?_)
          refine ge_c1 (c_law_weave a) hr (ga_cons (ge_var 0 rfl (ga_cons ?_)))
          refine ge_bin ?_
          refine (gp_int).of ?_
          refine ⟨_, rfl, ?_⟩
          refine ge_c1 (c_law_take a) hr (ga_cons (ge_var 0 rfl (ga_cons ((gp_int).of (ga_nil ⟨rfl, _, _, rfl, p, ns56, (6 : Int), rfl, rfl, ok57, (by omega), (by omega), fun k59 ns60 lo62 hi63 ok61 => ?_⟩)))))
          refine ⟨_, _, rfl, b_add, ?_⟩
          refine ga_cons ?_
          refine ge_bin ?_
          refine (gp_int).of ?_
          refine ⟨_, rfl, ?_⟩
          refine ge_c1 (c_law_take a) hr (ga_cons (ge_var 0 rfl (ga_cons ((gp_int).of (ga_nil ⟨rfl, _, _, rfl, p, ns60, (6 : Int), rfl, rfl, ok61, (by omega), (by omega), fun k64 ns65 lo67 hi68 ok66 => ?_⟩)))))
          refine ⟨_, _, rfl, b_add, ?_⟩
          refine ga_nil ⟨rfl, _, _, rfl, p, ns65, (((1 : Int) + k59)).toNat, (((1 : Int) + k64)).toNat, (by rw [Int.toNat_of_nonneg (by omega), Int.toNat_of_nonneg (by omega)]), rfl, ok66, by omega, by omega, by omega, by omega, fun W69 ns70 tb72 ok71 => ?_⟩
          have hA0 : (W55.getD (0 : Int).toNat default).length = (((1 : Int) + k50)).toNat := tb58.r _ (getD_mem (Int.le_refl _) (by have := tb58.l; omega))
          have hB0 : (W69.getD (0 : Int).toNat default).length = (((1 : Int) + k64)).toNat := tb72.r _ (getD_mem (Int.le_refl _) (by have := tb72.l; omega))
          have hA := tb58.r
          have hB := tb72.r
          have hAl := tb58.l
          have hBl := tb72.l
          refine gss_one (gs_ret (((gp_tuple a.b_tuple (gp_catL (f := (fun x : (List Int) => (.tuple (x.map PyData.int)))) ((W55.map fun x73 => (x73 ++ (List.replicate (((W69.getD ((0 : Int)).toNat default).length : Int)).toNat (1 : Int))))) ((W69.map fun x74 => ((List.replicate (((W55.getD ((0 : Int)).toNat default).length : Int)).toNat (0 : Int)) ++ x74))) (gp_lcM [("row", 11)] W55 (fun x : (List Int) => (.tuple (x.map PyData.int))) (fun x73 => (x73 ++ (List.replicate (((W69.getD ((0 : Int)).toNat default).length : Int)).toNat (1 : Int)))) (fun x : (List Int) => (.tuple (x.map PyData.int))) rfl nd (gip_tup (gp_var 7 rfl)) rfl (szl (by first | (simp only [List.length_range, List.length_map, List.length_zipIdx, List.length_zip, List.length_mergeSort, List.length_take, Int.toNat_natCast]; omega) | omega | assumption)) (fun x73 hx73 s73 H73 C73 cl73 fp73 => (gg_name 11 nd ⟨rfl, fun s573 H573 C573 cl573 fp573 => (gp_catT (f := PyData.int) (x73) ((List.replicate (((W69.getD ((0 : Int)).toNat default).length : Int)).toNat (1 : Int))) (gp_var 11 rfl) (gp_rep1 (f := PyData.int) (1 : Int) (gp_tup (gap_cons gp_int gap_nil)) (gp_lenTm a.b_len (gp_atT (f := (fun x : (List Int) => (.tuple (x.map PyData.int)))) (gp_var 8 rfl) gp_int (by first | omega | (simp only [List.length_replicate, List.length_map]; first | omega | (have := hA _ (by assumption); omega) | (have := hB _ (by assumption); omega))) (by first | omega | (simp only [List.length_replicate, List.length_map]; first | omega | (have := hA _ (by assumption); omega) | (have := hB _ (by assumption); omega))))) (by first | omega | (simp only [List.length_replicate, List.length_map]; first | omega | (have := hA _ (by assumption); omega) | (have := hB _ (by assumption); omega))) (by first | omega | (simp only [List.length_replicate, List.length_map]; first | omega | (have := hA _ (by assumption); omega) | (have := hB _ (by assumption); omega)))) (by first | omega | (simp only [List.length_replicate, List.length_map]; first | omega | (have := hA _ (by assumption); omega) | (have := hB _ (by assumption); omega))))⟩))) (gp_lcM [("row", 11)] W69 (fun x : (List Int) => (.tuple (x.map PyData.int))) (fun x74 => ((List.replicate (((W55.getD ((0 : Int)).toNat default).length : Int)).toNat (0 : Int)) ++ x74)) (fun x : (List Int) => (.tuple (x.map PyData.int))) rfl nd (gip_tup (gp_var 8 rfl)) rfl (szl (by first | (simp only [List.length_range, List.length_map, List.length_zipIdx, List.length_zip, List.length_mergeSort, List.length_take, Int.toNat_natCast]; omega) | omega | assumption)) (fun x74 hx74 s74 H74 C74 cl74 fp74 => (gg_name 11 nd ⟨rfl, fun s574 H574 C574 cl574 fp574 => (gp_catT (f := PyData.int) ((List.replicate (((W55.getD ((0 : Int)).toNat default).length : Int)).toNat (0 : Int))) (x74) (gp_rep1 (f := PyData.int) (0 : Int) (gp_tup (gap_cons gp_int gap_nil)) (gp_lenTm a.b_len (gp_atT (f := (fun x : (List Int) => (.tuple (x.map PyData.int)))) (gp_var 7 rfl) gp_int (by first | omega | (simp only [List.length_replicate, List.length_map]; first | omega | (have := hA _ (by assumption); omega) | (have := hB _ (by assumption); omega))) (by first | omega | (simp only [List.length_replicate, List.length_map]; first | omega | (have := hA _ (by assumption); omega) | (have := hB _ (by assumption); omega))))) (by first | omega | (simp only [List.length_replicate, List.length_map]; first | omega | (have := hA _ (by assumption); omega) | (have := hB _ (by assumption); omega))) (by first | omega | (simp only [List.length_replicate, List.length_map]; first | omega | (have := hA _ (by assumption); omega) | (have := hB _ (by assumption); omega)))) (gp_var 11 rfl) (by first | omega | (simp only [List.length_replicate, List.length_map]; first | omega | (have := hA _ (by assumption); omega) | (have := hB _ (by assumption); omega))))⟩))) (by first | omega | (simp only [List.length_replicate, List.length_map]; first | omega | (have := hA _ (by assumption); omega) | (have := hB _ (by assumption); omega)))))).of ?_))
          have tt := tab_blocks tb58 tb72
          refine r _ _ _ _ ?_ (by omega : 1 ≤ (((1 : Int) + k45)).toNat + (((1 : Int) + k59)).toNat) (by omega) (by omega : 1 ≤ (((1 : Int) + k50)).toNat + (((1 : Int) + k64)).toNat) (by omega) ok71
          rw [hA0, hB0]
          exact tt
abbrev onesL : List Int := List.replicate (12 : Int).toNat 1
theorem ones_eq : cnt ((List.range 12).map fun i => (List.range 12).map fun j => if (decide (i = j)) then 1 else 0) = (onesL, onesL) := by decide
theorem ones_ok : OkC (onesL, onesL) ∧ AllNN (onesL, onesL) := by
  have := cnt_ok (tab_rule 12 12 fun i j => decide (i = j)) (by decide) (by decide) (by decide) (by decide)
  rw [ones_eq] at this
  exact ⟨this.1, this.2.2.2.1⟩
abbrev steepC : CT := ([12, 12] ++ List.replicate (10 : Int).toNat 0, [12] ++ List.replicate (2 : Int).toNat 2 ++ List.replicate (8 : Int).toNat 1 ++ [0])
theorem steep_ok : OkC steepC := ⟨⟨by decide, by decide, by decide, by decide⟩, by decide, by decide⟩
theorem steep_no : ¬ AllNN steepC := fun h => by
  have := GR.good_of h [12, 12] (List.Sublist.cons₂ _ (List.Sublist.cons₂ _ (List.nil_sublist _)))
  revert this
  decide
def oD : Option CT → PyData
  | none => .none
  | some c => cD c

theorem ok_law (a : All K mg) {f : Addr} {fd : FuncData} (F : Fun K "law" "law" s_law f fd) : FnOk P w K mg base CX0 8 f fd ["script"] (spOf K 1 SLaw) :=
  fn_okP F sc_law fun f cdv A outer s H E hr args hs R hl h => by
    have nd : (["script", "pool", "lap", "weave", "counts", "made", "side", "row", "at", "ones", "steep"] : List Str).Nodup := by decide
    obtain ⟨nz, rfl, r⟩ := h
    refine gss_cons (gs_set 1 nd (ge_c0 (c_law_pool a) hr (ga_cons (ge_var 0 rfl (ga_nil ⟨rfl, nz, rfl, rfl, fun p ns hok => ?_⟩)))))
    show GSs _ _ _ ((p, oI ns) :: hs) _
    refine gss_cons (gs_forT [2] ((List.range ((2 : Int)).toNat)) (fun k : Nat => PyData.int (k : Int)) (fun t : List Int => ([some (.z nz), some (.r p), none, none, none, none, none, none, none, none, none] : Sl)) (fun t : List Int => ((p, oI t) :: hs : Hs)) (fun i t => POk t) ns pown rfl (gip_rng1 a.b_range gp_int ⟨(by first | omega | assumption), (by first | omega | assumption)⟩) (intR0 _) ?_ (by repeat (first | exact Wk.refl _ | exact Wk.nil | apply Wk.keep | apply Wk.drop)) rfl ?_ ?_)
    · exact hok
    · intro i x t hx hJ
      refine (gg_name 2 nd ?_)
      refine gss_cons (gs_set 3 nd (ge_c1 (c_law_wide a) hr (ga_cons (ge_var 1 rfl (ga_nil ⟨rfl, _, _, rfl, p, t, rfl, rfl, hJ, fun W m n ns1 tb hm1 hm2 hn1 hn2 ok1 => ?_⟩)))))
      obtain ⟨hc, e1, e2, hnn, hsum, hb1, hb2⟩ := cnt_ok tb hm1 hm2 hn1 hn2
      have tb' : Tab W (cnt W).1.length (cnt W).2.length := by rw [e1, e2]; exact tb
      refine gss_cons (gs_set 4 nd (((gp_c (c_law_counts a) (by exact hr) (gap_cons (gp_var 3 rfl) gap_nil) (pF1 W ⟨m, n, tb, hm1, hm2, hn1, hn2⟩))).of ?_))
      refine gss_cons (gs_if ((GT.is (d' := false) (gwp_or (gtp_not (gtp_val (gp_c (c_law_asked a) (by exact hr) (gap_cons (gp_var 4 rfl) (gap_cons (gp_var 3 rfl) gap_nil)) (fun R r => ⟨(cnt W), _, rfl, hc, .inr ⟨W, rfl, tb', rfl⟩, r⟩)))) (fun hq1 => (gwp_or1 (gtp_cmp (gp_c (c_strength_of a) (by exact hr) (gap_cons (gp_var 4 rfl) gap_nil) (pF1 (cnt W) hc.ck)) gp_int c_lt)))).gt (by simp; exact Int.not_lt.mp (str_nn hc.ck hnn))).of ⟨fun h => (nomatch h), fun _ => gss_nil ?_⟩))
      refine gss_mid (fun t : List Int => ([some (.z nz), some (.r p), none, some (.d (tW W)), some (.d (cD (cnt W))), none, none, none, none, none, none] : Sl)) (fun t => (p, oI t) :: hs) (fun t => POk t) (gs_forE (α := Option CT) (τ := List Int) [5] oD (fun _ => [some (.z nz), some (.r p), none, some (.d (tW W)), some (.d (cD (cnt W))), none, none, none, none, none, none]) (fun t => (p, oI t) :: hs) pown rfl (gi_tup (ge_c1 (c_law_climb a) hr (ga_cons (ge_var 1 rfl (ga_cons ((gp_var 4 rfl).of (ga_nil ⟨rfl, _, _, rfl, p, ns1, cnt W, rfl, rfl, ok1, hc, fun c1 ns2 hc1 ok2 => ?_, fun c1 c2 ns2 hc1 hc2 ok2 => ?_⟩)))))))) ?_
      · refine ⟨_, rfl, [some c1, none], fun _ t => POk t, ns2, rfl, ok2, (by repeat (first | exact Wk.refl _ | exact Wk.nil | apply Wk.keep | apply Wk.drop)), rfl, ?_, fun t hJ => ⟨t, hJ, Wk.refl _, rfl⟩⟩
        intro i x t hx hJ
        have hx2 : ∀ c, x = some c → OkC c := fun c e => by
          have := List.mem_of_getElem? hx
          rw [e] at this
          simp only [List.mem_cons, Option.some.injEq, List.not_mem_nil, or_false, reduceCtorEq] at this
          rcases this with rfl; exact hc1
        refine gg_name 5 nd ?_
        cases x with
        | none =>
          refine gss_one (gs_if ((GT.is (d' := false) (gwp_and (u := false) (gtp_cmp (gp_var 5 rfl) gp_non c_notN) (fun h => absurd h (by simp [oD]))).gt (by simp)).of ⟨fun h => (nomatch h), fun _ => gss_nil ?_⟩))
          exact ⟨t, hJ, (by repeat (first | exact Wk.refl _ | exact Wk.nil | apply Wk.keep | apply Wk.drop)), rfl⟩
        | some c =>
          refine gss_one (gs_if ((GT.is (d' := false) (gwp_and (gtp_cmp (gp_var 5 rfl) gp_non c_notN) (fun hq2 => (gwp_and1 (gtp_not (gtp_val (gp_c (c_law_asked a) (by exact hr) (gap_cons (gp_var 5 rfl) (gap_cons gp_non gap_nil)) (fun R r => ⟨c, _, rfl, (hx2 c rfl), .inl rfl, r⟩))))))).gt (by simp)).of ⟨fun h => (nomatch h), fun _ => gss_nil ?_⟩))
          exact ⟨t, hJ, (by repeat (first | exact Wk.refl _ | exact Wk.nil | apply Wk.keep | apply Wk.drop)), rfl⟩
      · refine ⟨_, rfl, [some c1, some c2], fun _ t => POk t, ns2, rfl, ok2, (by repeat (first | exact Wk.refl _ | exact Wk.nil | apply Wk.keep | apply Wk.drop)), rfl, ?_, fun t hJ => ⟨t, hJ, Wk.refl _, rfl⟩⟩
        intro i x t hx hJ
        have hx2 : ∀ c, x = some c → OkC c := fun c e => by
          have := List.mem_of_getElem? hx
          rw [e] at this
          simp only [List.mem_cons, Option.some.injEq, List.not_mem_nil, or_false, reduceCtorEq] at this
          rcases this with rfl | rfl; exact hc1; exact hc2
        refine gg_name 5 nd ?_
        cases x with
        | none =>
          refine gss_one (gs_if ((GT.is (d' := false) (gwp_and (u := false) (gtp_cmp (gp_var 5 rfl) gp_non c_notN) (fun h => absurd h (by simp [oD]))).gt (by simp)).of ⟨fun h => (nomatch h), fun _ => gss_nil ?_⟩))
          exact ⟨t, hJ, (by repeat (first | exact Wk.refl _ | exact Wk.nil | apply Wk.keep | apply Wk.drop)), rfl⟩
        | some c =>
          refine gss_one (gs_if ((GT.is (d' := false) (gwp_and (gtp_cmp (gp_var 5 rfl) gp_non c_notN) (fun hq3 => (gwp_and1 (gtp_not (gtp_val (gp_c (c_law_asked a) (by exact hr) (gap_cons (gp_var 5 rfl) (gap_cons gp_non gap_nil)) (fun R r => ⟨c, _, rfl, (hx2 c rfl), .inl rfl, r⟩))))))).gt (by simp)).of ⟨fun h => (nomatch h), fun _ => gss_nil ?_⟩))
          exact ⟨t, hJ, (by repeat (first | exact Wk.refl _ | exact Wk.nil | apply Wk.keep | apply Wk.drop)), rfl⟩
      intro ns3 ok3
      refine gss_cons (gs_set 6 nd ?_)
      refine ge_c1 (c_law_take a) hr (ga_cons (ge_var 1 rfl (ga_cons ((gp_int).of (ga_nil ⟨rfl, _, _, rfl, p, ns3, (2 : Int), rfl, rfl, ok3, (by omega), (by omega), fun k4 ns5 lo7 hi8 ok6 => ?_⟩)))))
      rcases bit (by assumption : 0 ≤ k4) (by assumption : k4 < 2) with rfl | rfl
      · skip
        refine gss_cons (gs_set 7 nd (ge_listO true a.b_list ((gp_ix (gp_var 4 rfl) (gp_var 6 rfl) (s_tup rfl)).of ⟨_, rfl, fun q => ?_⟩)))
        rw [← ol_ds]
        refine GSs.perm ?_ (List.Perm.swap _ _ _)
        have hl1 := hc.ck.l1
        have hl2 := hc.ck.m1
        have hl3 := hc.ck.l2
        refine gss_cons (gs_set 8 nd ?_)
        refine ge_c1 (c_law_take a) hr (ga_cons (ge_var 1 rfl (ga_cons (((gp_lenO (f := PyData.int) (l := (cnt W).1) 7 a.b_len rfl (List.mem_cons_of_mem _ List.mem_cons_self))).of (ga_nil ⟨rfl, _, _, rfl, p, ns5, ((cnt W).1.length : Int), rfl, rfl, ok6, (by omega), (by omega), fun k9 ns10 lo12 hi13 ok11 => ?_⟩)))))
        have hV : 0 ≤ (if decide ((cnt W).1.getD (k9).toNat default < (cnt W).2.length) then (cnt W).1.getD (k9).toNat default + 1 else (cnt W).1.getD (k9).toNat default - 1) := by
          have := nn_get hc.nn1 (k9).toNat
          split
          · omega
          · next h => rw [decide_eq_true_eq] at h; omega
        refine gss_cons (gs_putO (f := PyData.int) (l := (cnt W).1) (y := (if decide ((cnt W).1.getD (k9).toNat default < (cnt W).2.length) then (cnt W).1.getD (k9).toNat default + 1 else (cnt W).1.getD (k9).toNat default - 1)) 7 rfl (GE.is (d' := .int (if decide ((cnt W).1.getD (k9).toNat default < (cnt W).2.length) then (cnt W).1.getD (k9).toNat default + 1 else (cnt W).1.getD (k9).toNat default - 1)) (gp_if (gtp_cmp (gp_atO (f := PyData.int) (l := (cnt W).1) 7 rfl (List.mem_cons_of_mem _ List.mem_cons_self) (gp_var 8 rfl) (by first | assumption | omega | (simp only [List.length_set, List.length_append, List.length_cons, List.length_nil, List.length_map, List.length_range]; omega)) (by first | assumption | omega | (simp only [List.length_set, List.length_append, List.length_cons, List.length_nil, List.length_map, List.length_range]; omega))) (gp_lenTm a.b_len (gp_ix (gp_var 4 rfl) (gp_bin gp_int (gp_var 6 rfl) b_sub) (s_tup rfl))) c_lt) (fun _ => (gp_bin (gp_atO (f := PyData.int) (l := (cnt W).1) 7 rfl (List.mem_cons_of_mem _ List.mem_cons_self) (gp_var 8 rfl) (by first | assumption | omega | (simp only [List.length_set, List.length_append, List.length_cons, List.length_nil, List.length_map, List.length_range]; omega)) (by first | assumption | omega | (simp only [List.length_set, List.length_append, List.length_cons, List.length_nil, List.length_map, List.length_range]; omega))) gp_int b_add)) (fun _ => (gp_bin (gp_atO (f := PyData.int) (l := (cnt W).1) 7 rfl (List.mem_cons_of_mem _ List.mem_cons_self) (gp_var 8 rfl) (by first | assumption | omega | (simp only [List.length_set, List.length_append, List.length_cons, List.length_nil, List.length_map, List.length_range]; omega)) (by first | assumption | omega | (simp only [List.length_set, List.length_append, List.length_cons, List.length_nil, List.length_map, List.length_range]; omega))) gp_int b_sub))) (by split <;> rfl)) (gp_var 8 rfl) (by first | assumption | omega | (simp only [List.length_set, List.length_append, List.length_cons, List.length_nil, List.length_map, List.length_range]; omega)) (by first | assumption | omega | (simp only [List.length_set, List.length_append, List.length_cons, List.length_nil, List.length_map, List.length_range]; omega)) (.there .here) ?_)
        refine GSs.freeze (ds := (((cnt W).1.set (k9).toNat (if decide ((cnt W).1.getD (k9).toNat default < (cnt W).2.length) then (cnt W).1.getD (k9).toNat default + 1 else (cnt W).1.getD (k9).toNat default - 1))).map .int) 7 ?_ rfl (by rw [ol_ds]; exact .there .here)
        have hc2 : OkC (((cnt W).1.set (k9).toNat (if decide ((cnt W).1.getD (k9).toNat default < (cnt W).2.length) then (cnt W).1.getD (k9).toNat default + 1 else (cnt W).1.getD (k9).toNat default - 1)), (cnt W).2) := okc_of hc (by simp only [List.length_set]) rfl (nn_set hc.nn1 _ hV) hc.nn2
        refine gss_one (gs_if ((GT.is (d' := false) (gtp_not (gtp_val (gp_c (c_law_asked a) (by exact hr) (gap_cons (GE.is (d' := cD (((cnt W).1.set (k9).toNat (if decide ((cnt W).1.getD (k9).toNat default < (cnt W).2.length) then (cnt W).1.getD (k9).toNat default + 1 else (cnt W).1.getD (k9).toNat default - 1)), (cnt W).2)) (gp_if (gtp_cmp (gp_var 6 rfl) gp_int c_eqI) (fun _ => (gp_tup (gap_cons (gp_tuple a.b_tuple (gp_var 7 rfl)) (gap_cons (gp_ix (gp_var 4 rfl) gp_int (s_tup rfl)) gap_nil)))) (fun _ => (gp_tup (gap_cons (gp_ix (gp_var 4 rfl) gp_int (s_tup rfl)) (gap_cons (gp_tuple a.b_tuple (gp_var 7 rfl)) gap_nil))))) (by simp)) (gap_cons gp_non gap_nil)) (fun R r => ⟨(((cnt W).1.set (k9).toNat (if decide ((cnt W).1.getD (k9).toNat default < (cnt W).2.length) then (cnt W).1.getD (k9).toNat default + 1 else (cnt W).1.getD (k9).toNat default - 1)), (cnt W).2), _, rfl, hc2, .inl rfl, r⟩)))) (by simp)).of ⟨fun h => (nomatch h), fun _ => gss_nil ?_⟩))
        exact ⟨_, ok11, (by repeat (first | exact Wk.refl _ | exact Wk.nil | apply Wk.keep | apply Wk.drop)), rfl⟩
      · skip
        refine gss_cons (gs_set 7 nd (ge_listO true a.b_list ((gp_ix (gp_var 4 rfl) (gp_var 6 rfl) (s_tup rfl)).of ⟨_, rfl, fun q => ?_⟩)))
        rw [← ol_ds]
        refine GSs.perm ?_ (List.Perm.swap _ _ _)
        have hl1 := hc.ck.l2
        have hl2 := hc.ck.m2
        have hl3 := hc.ck.l1
        refine gss_cons (gs_set 8 nd ?_)
        refine ge_c1 (c_law_take a) hr (ga_cons (ge_var 1 rfl (ga_cons (((gp_lenO (f := PyData.int) (l := (cnt W).2) 7 a.b_len rfl (List.mem_cons_of_mem _ List.mem_cons_self))).of (ga_nil ⟨rfl, _, _, rfl, p, ns5, ((cnt W).2.length : Int), rfl, rfl, ok6, (by omega), (by omega), fun k14 ns15 lo17 hi18 ok16 => ?_⟩)))))
        have hV : 0 ≤ (if decide ((cnt W).2.getD (k14).toNat default < (cnt W).1.length) then (cnt W).2.getD (k14).toNat default + 1 else (cnt W).2.getD (k14).toNat default - 1) := by
          have := nn_get hc.nn2 (k14).toNat
          split
          · omega
          · next h => rw [decide_eq_true_eq] at h; omega
        refine gss_cons (gs_putO (f := PyData.int) (l := (cnt W).2) (y := (if decide ((cnt W).2.getD (k14).toNat default < (cnt W).1.length) then (cnt W).2.getD (k14).toNat default + 1 else (cnt W).2.getD (k14).toNat default - 1)) 7 rfl (GE.is (d' := .int (if decide ((cnt W).2.getD (k14).toNat default < (cnt W).1.length) then (cnt W).2.getD (k14).toNat default + 1 else (cnt W).2.getD (k14).toNat default - 1)) (gp_if (gtp_cmp (gp_atO (f := PyData.int) (l := (cnt W).2) 7 rfl (List.mem_cons_of_mem _ List.mem_cons_self) (gp_var 8 rfl) (by first | assumption | omega | (simp only [List.length_set, List.length_append, List.length_cons, List.length_nil, List.length_map, List.length_range]; omega)) (by first | assumption | omega | (simp only [List.length_set, List.length_append, List.length_cons, List.length_nil, List.length_map, List.length_range]; omega))) (gp_lenTm a.b_len (gp_ix (gp_var 4 rfl) (gp_bin gp_int (gp_var 6 rfl) b_sub) (s_tup rfl))) c_lt) (fun _ => (gp_bin (gp_atO (f := PyData.int) (l := (cnt W).2) 7 rfl (List.mem_cons_of_mem _ List.mem_cons_self) (gp_var 8 rfl) (by first | assumption | omega | (simp only [List.length_set, List.length_append, List.length_cons, List.length_nil, List.length_map, List.length_range]; omega)) (by first | assumption | omega | (simp only [List.length_set, List.length_append, List.length_cons, List.length_nil, List.length_map, List.length_range]; omega))) gp_int b_add)) (fun _ => (gp_bin (gp_atO (f := PyData.int) (l := (cnt W).2) 7 rfl (List.mem_cons_of_mem _ List.mem_cons_self) (gp_var 8 rfl) (by first | assumption | omega | (simp only [List.length_set, List.length_append, List.length_cons, List.length_nil, List.length_map, List.length_range]; omega)) (by first | assumption | omega | (simp only [List.length_set, List.length_append, List.length_cons, List.length_nil, List.length_map, List.length_range]; omega))) gp_int b_sub))) (by split <;> rfl)) (gp_var 8 rfl) (by first | assumption | omega | (simp only [List.length_set, List.length_append, List.length_cons, List.length_nil, List.length_map, List.length_range]; omega)) (by first | assumption | omega | (simp only [List.length_set, List.length_append, List.length_cons, List.length_nil, List.length_map, List.length_range]; omega)) (.there .here) ?_)
        refine GSs.freeze (ds := (((cnt W).2.set (k14).toNat (if decide ((cnt W).2.getD (k14).toNat default < (cnt W).1.length) then (cnt W).2.getD (k14).toNat default + 1 else (cnt W).2.getD (k14).toNat default - 1))).map .int) 7 ?_ rfl (by rw [ol_ds]; exact .there .here)
        have hc2 : OkC ((cnt W).1, ((cnt W).2.set (k14).toNat (if decide ((cnt W).2.getD (k14).toNat default < (cnt W).1.length) then (cnt W).2.getD (k14).toNat default + 1 else (cnt W).2.getD (k14).toNat default - 1))) := okc_of hc rfl (by simp only [List.length_set]) hc.nn1 (nn_set hc.nn2 _ hV)
        refine gss_one (gs_if ((GT.is (d' := false) (gtp_not (gtp_val (gp_c (c_law_asked a) (by exact hr) (gap_cons (GE.is (d' := cD ((cnt W).1, ((cnt W).2.set (k14).toNat (if decide ((cnt W).2.getD (k14).toNat default < (cnt W).1.length) then (cnt W).2.getD (k14).toNat default + 1 else (cnt W).2.getD (k14).toNat default - 1)))) (gp_if (gtp_cmp (gp_var 6 rfl) gp_int c_eqI) (fun _ => (gp_tup (gap_cons (gp_tuple a.b_tuple (gp_var 7 rfl)) (gap_cons (gp_ix (gp_var 4 rfl) gp_int (s_tup rfl)) gap_nil)))) (fun _ => (gp_tup (gap_cons (gp_ix (gp_var 4 rfl) gp_int (s_tup rfl)) (gap_cons (gp_tuple a.b_tuple (gp_var 7 rfl)) gap_nil))))) (by simp)) (gap_cons gp_non gap_nil)) (fun R r => ⟨((cnt W).1, ((cnt W).2.set (k14).toNat (if decide ((cnt W).2.getD (k14).toNat default < (cnt W).1.length) then (cnt W).2.getD (k14).toNat default + 1 else (cnt W).2.getD (k14).toNat default - 1))), _, rfl, hc2, .inl rfl, r⟩)))) (by simp)).of ⟨fun h => (nomatch h), fun _ => gss_nil ?_⟩))
        exact ⟨_, ok16, (by repeat (first | exact Wk.refl _ | exact Wk.nil | apply Wk.keep | apply Wk.drop)), rfl⟩
    · intro t hJ
      refine GSs.wk (hs' := hs) ?_ (Wk.refl _) (List.sublist_cons_self _ _)
      refine gss_cons (gs_set 9 nd (((gp_rep1 (f := PyData.int) (1 : Int) (gp_tup (gap_cons gp_int gap_nil)) gp_int (by first | omega | decide) (by first | omega | decide))).of ?_))
      refine gss_cons (gs_if (GW.gt (gw_or ((GT.is (d' := false) (gtp_not (gtp_val (gp_c (c_law_asked a) (by exact hr) (gap_cons (gp_tup (gap_cons (gp_var 9 rfl) (gap_cons (gp_var 9 rfl) gap_nil))) (gap_cons gp_non gap_nil)) (fun R r => ⟨(onesL, onesL), _, rfl, ones_ok.1, .inl rfl, r⟩)))) (by simp)).of ⟨fun _ => gw_or1 (gt_cmp (ge_ix (ge_c0 (c_weave_answer a) hr (ga_cons ((gp_tup (gap_cons (gp_var 9 rfl) (gap_cons (gp_var 9 rfl) gap_nil))).of (ga_nil ⟨rfl, (onesL, onesL), rfl, ⟨ones_ok.1.ck, ones_ok.1.nn1⟩, fun hne => absurd rfl hne, fun heq m o h3 h4 h5 h6 h7 => absurd ((allNN_iff _).mp ones_ok.2 m o h3 h4 h5 h6) (Int.not_le.mpr h7), fun heq hall => ?_⟩)))))), fun z => (nomatch z)⟩))))
      refine ⟨_, rfl, gp_int.of ⟨_, _, rfl, s_tup rfl, _, rfl, gp_str.of ⟨_, _, rfl, c_neS, fun z => absurd z (by simp), fun _ => gss_nil ?_⟩⟩⟩
      refine gss_cons (gs_set 10 nd (((gp_tup (gap_cons (gp_catT (f := PyData.int) ([(12 : Int), (12 : Int)]) ((List.replicate ((10 : Int)).toNat (0 : Int))) (gp_tup (gap_cons gp_int (gap_cons gp_int gap_nil))) (gp_rep1 (f := PyData.int) (0 : Int) (gp_tup (gap_cons gp_int gap_nil)) gp_int (by first | omega | decide) (by first | omega | decide)) (by first | omega | decide)) (gap_cons (gp_catT (f := PyData.int) ((([(12 : Int)] ++ (List.replicate ((2 : Int)).toNat (2 : Int))) ++ (List.replicate ((8 : Int)).toNat (1 : Int)))) ([(0 : Int)]) (gp_catT (f := PyData.int) (([(12 : Int)] ++ (List.replicate ((2 : Int)).toNat (2 : Int)))) ((List.replicate ((8 : Int)).toNat (1 : Int))) (gp_catT (f := PyData.int) ([(12 : Int)]) ((List.replicate ((2 : Int)).toNat (2 : Int))) (gp_tup (gap_cons gp_int gap_nil)) (gp_rep1 (f := PyData.int) (2 : Int) (gp_tup (gap_cons gp_int gap_nil)) gp_int (by first | omega | decide) (by first | omega | decide)) (by first | omega | decide)) (gp_rep1 (f := PyData.int) (1 : Int) (gp_tup (gap_cons gp_int gap_nil)) gp_int (by first | omega | decide) (by first | omega | decide)) (by first | omega | decide)) (gp_tup (gap_cons gp_int gap_nil)) (by first | omega | decide)) gap_nil)))).of ?_))
      refine gss_one (gs_ret (ge_and ((gp_c (c_law_asked a) (by exact hr) (gap_cons (gp_var 10 rfl) (gap_cons gp_non gap_nil)) (fun R r => ⟨steepC, _, rfl, steep_ok, .inl rfl, r⟩)).of ⟨true, rfl, fun _ => ge_one (ge_cmp (ge_ix (ge_c0 (c_weave_answer a) hr (ga_cons ((gp_var 10 rfl).of (ga_nil ⟨rfl, steepC, rfl, ⟨steep_ok.ck, steep_ok.nn1⟩, fun hne => absurd (by decide) hne, fun heq m o h3 h4 h5 h6 h7 => ?_, fun heq hall => absurd ((allNN_iff _).mpr hall) steep_no⟩)))))), fun z => (nomatch z)⟩)))
      exact ⟨_, rfl, gp_int.of ⟨_, _, rfl, s_tup rfl, _, rfl, gp_str.of ⟨_, _, rfl, c_eqS, by rw [decide_eq_true rfl]; exact r⟩⟩⟩
/-! ### the end -/
theorem mk_balance_at {K : PySem.W.Frag} {h : Heap} {mg : Str → Option Value} (X : K.In h) (G : h.Ns mainGlobals mg) {f : Addr} {od an : Option Addr} {sl : Array (Option Value)} {oc kV dc pm cd ct : Value}
    (a : PySem.W.nsIn K mainGlobals "balance_at" = some (some (.ref f))) (l : K.lookup f = some ⟨oc, od, .func (PySem.W.fnOf "balance_at" "balance_at" (defArgs s_balance_at) (defBody s_balance_at) (defScope s_balance_at) .none kV dc pm an cd ct), sl⟩) (c : PySem.W.codeIn K cd "balance_at" = true) (k : PySem.W.keepIn K (.ref f) = true) : Def K mg "balance_at" s_balance_at ["counts", "many", "other"] := by
  have F := fun_mk (st := s_balance_at) l c k
  exact ⟨f, _, F, F.binds (ps := ["counts", "many", "other"]) (fun _ _ _ _ _ _ us hl => match us, hl with | [_, _, _], _ => rfl), PySem.W.mg_of X G a⟩
theorem mk_inner_places {K : PySem.W.Frag} {h : Heap} {mg : Str → Option Value} (X : K.In h) (G : h.Ns mainGlobals mg) {f : Addr} {od an : Option Addr} {sl : Array (Option Value)} {oc kV dc pm cd ct : Value}
    (a : PySem.W.nsIn K mainGlobals "inner_places" = some (some (.ref f))) (l : K.lookup f = some ⟨oc, od, .func (PySem.W.fnOf "inner_places" "inner_places" (defArgs s_inner_places) (defBody s_inner_places) (defScope s_inner_places) .none kV dc pm an cd ct), sl⟩) (c : PySem.W.codeIn K cd "inner_places" = true) (k : PySem.W.keepIn K (.ref f) = true) : Def K mg "inner_places" s_inner_places ["counts"] := by
  have F := fun_mk (st := s_inner_places) l c k
  exact ⟨f, _, F, F.binds (ps := ["counts"]) (fun _ _ _ _ _ _ us hl => match us, hl with | [_], _ => rfl), PySem.W.mg_of X G a⟩
theorem mk_strength_of {K : PySem.W.Frag} {h : Heap} {mg : Str → Option Value} (X : K.In h) (G : h.Ns mainGlobals mg) {f : Addr} {od an : Option Addr} {sl : Array (Option Value)} {oc kV dc pm cd ct : Value}
    (a : PySem.W.nsIn K mainGlobals "strength_of" = some (some (.ref f))) (l : K.lookup f = some ⟨oc, od, .func (PySem.W.fnOf "strength_of" "strength_of" (defArgs s_strength_of) (defBody s_strength_of) (defScope s_strength_of) .none kV dc pm an cd ct), sl⟩) (c : PySem.W.codeIn K cd "strength_of" = true) (k : PySem.W.keepIn K (.ref f) = true) : Def K mg "strength_of" s_strength_of ["counts"] := by
  have F := fun_mk (st := s_strength_of) l c k
  exact ⟨f, _, F, F.binds (ps := ["counts"]) (fun _ _ _ _ _ _ us hl => match us, hl with | [_], _ => rfl), PySem.W.mg_of X G a⟩
theorem mk_is_integer {K : PySem.W.Frag} {h : Heap} {mg : Str → Option Value} (X : K.In h) (G : h.Ns mainGlobals mg) {f : Addr} {od an : Option Addr} {sl : Array (Option Value)} {oc kV dc pm cd ct : Value}
    (a : PySem.W.nsIn K mainGlobals "is_integer" = some (some (.ref f))) (l : K.lookup f = some ⟨oc, od, .func (PySem.W.fnOf "is_integer" "is_integer" (defArgs s_is_integer) (defBody s_is_integer) (defScope s_is_integer) .none kV dc pm an cd ct), sl⟩) (c : PySem.W.codeIn K cd "is_integer" = true) (k : PySem.W.keepIn K (.ref f) = true) : Def K mg "is_integer" s_is_integer ["thing"] := by
  have F := fun_mk (st := s_is_integer) l c k
  exact ⟨f, _, F, F.binds (ps := ["thing"]) (fun _ _ _ _ _ _ us hl => match us, hl with | [_], _ => rfl), PySem.W.mg_of X G a⟩
theorem mk_integer_within {K : PySem.W.Frag} {h : Heap} {mg : Str → Option Value} (X : K.In h) (G : h.Ns mainGlobals mg) {f : Addr} {od an : Option Addr} {sl : Array (Option Value)} {oc kV dc pm cd ct : Value}
    (a : PySem.W.nsIn K mainGlobals "integer_within" = some (some (.ref f))) (l : K.lookup f = some ⟨oc, od, .func (PySem.W.fnOf "integer_within" "integer_within" (defArgs s_integer_within) (defBody s_integer_within) (defScope s_integer_within) .none kV dc pm an cd ct), sl⟩) (c : PySem.W.codeIn K cd "integer_within" = true) (k : PySem.W.keepIn K (.ref f) = true) : Def K mg "integer_within" s_integer_within ["thing", "low", "high"] := by
  have F := fun_mk (st := s_integer_within) l c k
  exact ⟨f, _, F, F.binds (ps := ["thing", "low", "high"]) (fun _ _ _ _ _ _ us hl => match us, hl with | [_, _, _], _ => rfl), PySem.W.mg_of X G a⟩
theorem mk_tuple_of {K : PySem.W.Frag} {h : Heap} {mg : Str → Option Value} (X : K.In h) (G : h.Ns mainGlobals mg) {f : Addr} {od an : Option Addr} {sl : Array (Option Value)} {oc kV dc pm cd ct : Value}
    (a : PySem.W.nsIn K mainGlobals "tuple_of" = some (some (.ref f))) (l : K.lookup f = some ⟨oc, od, .func (PySem.W.fnOf "tuple_of" "tuple_of" (defArgs s_tuple_of) (defBody s_tuple_of) (defScope s_tuple_of) .none kV dc pm an cd ct), sl⟩) (c : PySem.W.codeIn K cd "tuple_of" = true) (k : PySem.W.keepIn K (.ref f) = true) : Def K mg "tuple_of" s_tuple_of ["thing", "many"] := by
  have F := fun_mk (st := s_tuple_of) l c k
  exact ⟨f, _, F, F.binds (ps := ["thing", "many"]) (fun _ _ _ _ _ _ us hl => match us, hl with | [_, _], _ => rfl), PySem.W.mg_of X G a⟩
theorem mk_are_integers {K : PySem.W.Frag} {h : Heap} {mg : Str → Option Value} (X : K.In h) (G : h.Ns mainGlobals mg) {f : Addr} {od an : Option Addr} {sl : Array (Option Value)} {oc kV dc pm cd ct : Value}
    (a : PySem.W.nsIn K mainGlobals "are_integers" = some (some (.ref f))) (l : K.lookup f = some ⟨oc, od, .func (PySem.W.fnOf "are_integers" "are_integers" (defArgs s_are_integers) (defBody s_are_integers) (defScope s_are_integers) .none kV dc pm an cd ct), sl⟩) (c : PySem.W.codeIn K cd "are_integers" = true) (k : PySem.W.keepIn K (.ref f) = true) : Def K mg "are_integers" s_are_integers ["thing"] := by
  have F := fun_mk (st := s_are_integers) l c k
  exact ⟨f, _, F, F.binds (ps := ["thing"]) (fun _ _ _ _ _ _ us hl => match us, hl with | [_], _ => rfl), PySem.W.mg_of X G a⟩
theorem mk_counts_of {K : PySem.W.Frag} {h : Heap} {mg : Str → Option Value} (X : K.In h) (G : h.Ns mainGlobals mg) {f : Addr} {od an : Option Addr} {sl : Array (Option Value)} {oc kV dc pm cd ct : Value}
    (a : PySem.W.nsIn K mainGlobals "counts_of" = some (some (.ref f))) (l : K.lookup f = some ⟨oc, od, .func (PySem.W.fnOf "counts_of" "counts_of" (defArgs s_counts_of) (defBody s_counts_of) (defScope s_counts_of) .none kV dc pm an cd ct), sl⟩) (c : PySem.W.codeIn K cd "counts_of" = true) (k : PySem.W.keepIn K (.ref f) = true) : Def K mg "counts_of" s_counts_of ["weave"] := by
  have F := fun_mk (st := s_counts_of) l c k
  exact ⟨f, _, F, F.binds (ps := ["weave"]) (fun _ _ _ _ _ _ us hl => match us, hl with | [_], _ => rfl), PySem.W.mg_of X G a⟩
theorem mk_is_drawn_entry {K : PySem.W.Frag} {h : Heap} {mg : Str → Option Value} (X : K.In h) (G : h.Ns mainGlobals mg) {f : Addr} {od an : Option Addr} {sl : Array (Option Value)} {oc kV dc pm cd ct : Value}
    (a : PySem.W.nsIn K mainGlobals "is_drawn_entry" = some (some (.ref f))) (l : K.lookup f = some ⟨oc, od, .func (PySem.W.fnOf "is_drawn_entry" "is_drawn_entry" (defArgs s_is_drawn_entry) (defBody s_is_drawn_entry) (defScope s_is_drawn_entry) .none kV dc pm an cd ct), sl⟩) (c : PySem.W.codeIn K cd "is_drawn_entry" = true) (k : PySem.W.keepIn K (.ref f) = true) : Def K mg "is_drawn_entry" s_is_drawn_entry ["thing"] := by
  have F := fun_mk (st := s_is_drawn_entry) l c k
  exact ⟨f, _, F, F.binds (ps := ["thing"]) (fun _ _ _ _ _ _ us hl => match us, hl with | [_], _ => rfl), PySem.W.mg_of X G a⟩
theorem mk_is_table {K : PySem.W.Frag} {h : Heap} {mg : Str → Option Value} (X : K.In h) (G : h.Ns mainGlobals mg) {f : Addr} {od an : Option Addr} {sl : Array (Option Value)} {oc kV dc pm cd ct : Value}
    (a : PySem.W.nsIn K mainGlobals "is_table" = some (some (.ref f))) (l : K.lookup f = some ⟨oc, od, .func (PySem.W.fnOf "is_table" "is_table" (defArgs s_is_table) (defBody s_is_table) (defScope s_is_table) .none kV dc pm an cd ct), sl⟩) (c : PySem.W.codeIn K cd "is_table" = true) (k : PySem.W.keepIn K (.ref f) = true) : Def K mg "is_table" s_is_table ["thing", "warps", "wefts", "let"] := by
  have F := fun_mk (st := s_is_table) l c k
  exact ⟨f, _, F, F.binds (ps := ["thing", "warps", "wefts", "let"]) (fun _ _ _ _ _ _ us hl => match us, hl with | [_, _, _, _], _ => rfl), PySem.W.mg_of X G a⟩
theorem mk_low_place {K : PySem.W.Frag} {h : Heap} {mg : Str → Option Value} (X : K.In h) (G : h.Ns mainGlobals mg) {f : Addr} {od an : Option Addr} {sl : Array (Option Value)} {oc kV dc pm cd ct : Value}
    (a : PySem.W.nsIn K mainGlobals "low_place" = some (some (.ref f))) (l : K.lookup f = some ⟨oc, od, .func (PySem.W.fnOf "low_place" "low_place" (defArgs s_low_place) (defBody s_low_place) (defScope s_low_place) .none kV dc pm an cd ct), sl⟩) (c : PySem.W.codeIn K cd "low_place" = true) (k : PySem.W.keepIn K (.ref f) = true) : Def K mg "low_place" s_low_place ["counts"] := by
  have F := fun_mk (st := s_low_place) l c k
  exact ⟨f, _, F, F.binds (ps := ["counts"]) (fun _ _ _ _ _ _ us hl => match us, hl with | [_], _ => rfl), PySem.W.mg_of X G a⟩
theorem mk_row_by_need {K : PySem.W.Frag} {h : Heap} {mg : Str → Option Value} (X : K.In h) (G : h.Ns mainGlobals mg) {f : Addr} {od an : Option Addr} {sl : Array (Option Value)} {oc kV dc pm cd ct : Value}
    (a : PySem.W.nsIn K mainGlobals "row_by_need" = some (some (.ref f))) (l : K.lookup f = some ⟨oc, od, .func (PySem.W.fnOf "row_by_need" "row_by_need" (defArgs s_row_by_need) (defBody s_row_by_need) (defScope s_row_by_need) .none kV dc pm an cd ct), sl⟩) (c : PySem.W.codeIn K cd "row_by_need" = true) (k : PySem.W.keepIn K (.ref f) = true) : Def K mg "row_by_need" s_row_by_need ["over", "left"] := by
  have F := fun_mk (st := s_row_by_need) l c k
  exact ⟨f, _, F, F.binds (ps := ["over", "left"]) (fun _ _ _ _ _ _ us hl => match us, hl with | [_, _], _ => rfl), PySem.W.mg_of X G a⟩
theorem mk_some_weave {K : PySem.W.Frag} {h : Heap} {mg : Str → Option Value} (X : K.In h) (G : h.Ns mainGlobals mg) {f : Addr} {od an : Option Addr} {sl : Array (Option Value)} {oc kV dc pm cd ct : Value}
    (a : PySem.W.nsIn K mainGlobals "some_weave" = some (some (.ref f))) (l : K.lookup f = some ⟨oc, od, .func (PySem.W.fnOf "some_weave" "some_weave" (defArgs s_some_weave) (defBody s_some_weave) (defScope s_some_weave) .none kV dc pm an cd ct), sl⟩) (c : PySem.W.codeIn K cd "some_weave" = true) (k : PySem.W.keepIn K (.ref f) = true) : Def K mg "some_weave" s_some_weave ["counts"] := by
  have F := fun_mk (st := s_some_weave) l c k
  exact ⟨f, _, F, F.binds (ps := ["counts"]) (fun _ _ _ _ _ _ us hl => match us, hl with | [_], _ => rfl), PySem.W.mg_of X G a⟩
theorem mk_weave_answer {K : PySem.W.Frag} {h : Heap} {mg : Str → Option Value} (X : K.In h) (G : h.Ns mainGlobals mg) {f : Addr} {od an : Option Addr} {sl : Array (Option Value)} {oc kV dc pm cd ct : Value}
    (a : PySem.W.nsIn K mainGlobals "weave_answer" = some (some (.ref f))) (l : K.lookup f = some ⟨oc, od, .func (PySem.W.fnOf "weave_answer" "weave_answer" (defArgs s_weave_answer) (defBody s_weave_answer) (defScope s_weave_answer) .none kV dc pm an cd ct), sl⟩) (c : PySem.W.codeIn K cd "weave_answer" = true) (k : PySem.W.keepIn K (.ref f) = true) : Def K mg "weave_answer" s_weave_answer ["counts"] := by
  have F := fun_mk (st := s_weave_answer) l c k
  exact ⟨f, _, F, F.binds (ps := ["counts"]) (fun _ _ _ _ _ _ us hl => match us, hl with | [_], _ => rfl), PySem.W.mg_of X G a⟩
theorem mk_has_counts {K : PySem.W.Frag} {h : Heap} {mg : Str → Option Value} (X : K.In h) (G : h.Ns mainGlobals mg) {f : Addr} {od an : Option Addr} {sl : Array (Option Value)} {oc kV dc pm cd ct : Value}
    (a : PySem.W.nsIn K mainGlobals "has_counts" = some (some (.ref f))) (l : K.lookup f = some ⟨oc, od, .func (PySem.W.fnOf "has_counts" "has_counts" (defArgs s_has_counts) (defBody s_has_counts) (defScope s_has_counts) .none kV dc pm an cd ct), sl⟩) (c : PySem.W.codeIn K cd "has_counts" = true) (k : PySem.W.keepIn K (.ref f) = true) : Def K mg "has_counts" s_has_counts ["counts", "thing"] := by
  have F := fun_mk (st := s_has_counts) l c k
  exact ⟨f, _, F, F.binds (ps := ["counts", "thing"]) (fun _ _ _ _ _ _ us hl => match us, hl with | [_, _], _ => rfl), PySem.W.mg_of X G a⟩
theorem mk_is_weave_answer {K : PySem.W.Frag} {h : Heap} {mg : Str → Option Value} (X : K.In h) (G : h.Ns mainGlobals mg) {f : Addr} {od an : Option Addr} {sl : Array (Option Value)} {oc kV dc pm cd ct : Value}
    (a : PySem.W.nsIn K mainGlobals "is_weave_answer" = some (some (.ref f))) (l : K.lookup f = some ⟨oc, od, .func (PySem.W.fnOf "is_weave_answer" "is_weave_answer" (defArgs s_is_weave_answer) (defBody s_is_weave_answer) (defScope s_is_weave_answer) .none kV dc pm an cd ct), sl⟩) (c : PySem.W.codeIn K cd "is_weave_answer" = true) (k : PySem.W.keepIn K (.ref f) = true) : Def K mg "is_weave_answer" s_is_weave_answer ["counts", "thing"] := by
  have F := fun_mk (st := s_is_weave_answer) l c k
  exact ⟨f, _, F, F.binds (ps := ["counts", "thing"]) (fun _ _ _ _ _ _ us hl => match us, hl with | [_, _], _ => rfl), PySem.W.mg_of X G a⟩
theorem mk_law_pool {K : PySem.W.Frag} {h : Heap} {mg : Str → Option Value} (X : K.In h) (G : h.Ns mainGlobals mg) {f : Addr} {od an : Option Addr} {sl : Array (Option Value)} {oc kV dc pm cd ct : Value}
    (a : PySem.W.nsIn K mainGlobals "_law_pool" = some (some (.ref f))) (l : K.lookup f = some ⟨oc, od, .func (PySem.W.fnOf "_law_pool" "_law_pool" (defArgs s_law_pool) (defBody s_law_pool) (defScope s_law_pool) .none kV dc pm an cd ct), sl⟩) (c : PySem.W.codeIn K cd "_law_pool" = true) (k : PySem.W.keepIn K (.ref f) = true) : Def K mg "_law_pool" s_law_pool ["script"] := by
  have F := fun_mk (st := s_law_pool) l c k
  exact ⟨f, _, F, F.binds (ps := ["script"]) (fun _ _ _ _ _ _ us hl => match us, hl with | [_], _ => rfl), PySem.W.mg_of X G a⟩
theorem mk_law_take {K : PySem.W.Frag} {h : Heap} {mg : Str → Option Value} (X : K.In h) (G : h.Ns mainGlobals mg) {f : Addr} {od an : Option Addr} {sl : Array (Option Value)} {oc kV dc pm cd ct : Value}
    (a : PySem.W.nsIn K mainGlobals "_law_take" = some (some (.ref f))) (l : K.lookup f = some ⟨oc, od, .func (PySem.W.fnOf "_law_take" "_law_take" (defArgs s_law_take) (defBody s_law_take) (defScope s_law_take) .none kV dc pm an cd ct), sl⟩) (c : PySem.W.codeIn K cd "_law_take" = true) (k : PySem.W.keepIn K (.ref f) = true) : Def K mg "_law_take" s_law_take ["pool", "many"] := by
  have F := fun_mk (st := s_law_take) l c k
  exact ⟨f, _, F, F.binds (ps := ["pool", "many"]) (fun _ _ _ _ _ _ us hl => match us, hl with | [_, _], _ => rfl), PySem.W.mg_of X G a⟩
theorem mk_law_same {K : PySem.W.Frag} {h : Heap} {mg : Str → Option Value} (X : K.In h) (G : h.Ns mainGlobals mg) {f : Addr} {od an : Option Addr} {sl : Array (Option Value)} {oc kV dc pm cd ct : Value}
    (a : PySem.W.nsIn K mainGlobals "_law_same" = some (some (.ref f))) (l : K.lookup f = some ⟨oc, od, .func (PySem.W.fnOf "_law_same" "_law_same" (defArgs s_law_same) (defBody s_law_same) (defScope s_law_same) .none kV dc pm an cd ct), sl⟩) (c : PySem.W.codeIn K cd "_law_same" = true) (k : PySem.W.keepIn K (.ref f) = true) : Def K mg "_law_same" s_law_same ["told", "due"] := by
  have F := fun_mk (st := s_law_same) l c k
  exact ⟨f, _, F, F.binds (ps := ["told", "due"]) (fun _ _ _ _ _ _ us hl => match us, hl with | [_, _], _ => rfl), PySem.W.mg_of X G a⟩
theorem mk_law_weave {K : PySem.W.Frag} {h : Heap} {mg : Str → Option Value} (X : K.In h) (G : h.Ns mainGlobals mg) {f : Addr} {od an : Option Addr} {sl : Array (Option Value)} {oc kV dc pm cd ct : Value}
    (a : PySem.W.nsIn K mainGlobals "_law_weave" = some (some (.ref f))) (l : K.lookup f = some ⟨oc, od, .func (PySem.W.fnOf "_law_weave" "_law_weave" (defArgs s_law_weave) (defBody s_law_weave) (defScope s_law_weave) .none kV dc pm an cd ct), sl⟩) (c : PySem.W.codeIn K cd "_law_weave" = true) (k : PySem.W.keepIn K (.ref f) = true) : Def K mg "_law_weave" s_law_weave ["pool", "warps", "wefts"] := by
  have F := fun_mk (st := s_law_weave) l c k
  exact ⟨f, _, F, F.binds (ps := ["pool", "warps", "wefts"]) (fun _ _ _ _ _ _ us hl => match us, hl with | [_, _, _], _ => rfl), PySem.W.mg_of X G a⟩
theorem mk_law_counts {K : PySem.W.Frag} {h : Heap} {mg : Str → Option Value} (X : K.In h) (G : h.Ns mainGlobals mg) {f : Addr} {od an : Option Addr} {sl : Array (Option Value)} {oc kV dc pm cd ct : Value}
    (a : PySem.W.nsIn K mainGlobals "_law_counts" = some (some (.ref f))) (l : K.lookup f = some ⟨oc, od, .func (PySem.W.fnOf "_law_counts" "_law_counts" (defArgs s_law_counts) (defBody s_law_counts) (defScope s_law_counts) .none kV dc pm an cd ct), sl⟩) (c : PySem.W.codeIn K cd "_law_counts" = true) (k : PySem.W.keepIn K (.ref f) = true) : Def K mg "_law_counts" s_law_counts ["weave"] := by
  have F := fun_mk (st := s_law_counts) l c k
  exact ⟨f, _, F, F.binds (ps := ["weave"]) (fun _ _ _ _ _ _ us hl => match us, hl with | [_], _ => rfl), PySem.W.mg_of X G a⟩
theorem mk_law_balance {K : PySem.W.Frag} {h : Heap} {mg : Str → Option Value} (X : K.In h) (G : h.Ns mainGlobals mg) {f : Addr} {od an : Option Addr} {sl : Array (Option Value)} {oc kV dc pm cd ct : Value}
    (a : PySem.W.nsIn K mainGlobals "_law_balance" = some (some (.ref f))) (l : K.lookup f = some ⟨oc, od, .func (PySem.W.fnOf "_law_balance" "_law_balance" (defArgs s_law_balance) (defBody s_law_balance) (defScope s_law_balance) .none kV dc pm an cd ct), sl⟩) (c : PySem.W.codeIn K cd "_law_balance" = true) (k : PySem.W.keepIn K (.ref f) = true) : Def K mg "_law_balance" s_law_balance ["counts", "many", "other"] := by
  have F := fun_mk (st := s_law_balance) l c k
  exact ⟨f, _, F, F.binds (ps := ["counts", "many", "other"]) (fun _ _ _ _ _ _ us hl => match us, hl with | [_, _, _], _ => rfl), PySem.W.mg_of X G a⟩
theorem mk_law_balances {K : PySem.W.Frag} {h : Heap} {mg : Str → Option Value} (X : K.In h) (G : h.Ns mainGlobals mg) {f : Addr} {od an : Option Addr} {sl : Array (Option Value)} {oc kV dc pm cd ct : Value}
    (a : PySem.W.nsIn K mainGlobals "_law_balances" = some (some (.ref f))) (l : K.lookup f = some ⟨oc, od, .func (PySem.W.fnOf "_law_balances" "_law_balances" (defArgs s_law_balances) (defBody s_law_balances) (defScope s_law_balances) .none kV dc pm an cd ct), sl⟩) (c : PySem.W.codeIn K cd "_law_balances" = true) (k : PySem.W.keepIn K (.ref f) = true) : Def K mg "_law_balances" s_law_balances ["counts"] := by
  have F := fun_mk (st := s_law_balances) l c k
  exact ⟨f, _, F, F.binds (ps := ["counts"]) (fun _ _ _ _ _ _ us hl => match us, hl with | [_], _ => rfl), PySem.W.mg_of X G a⟩
theorem mk_law_lowest {K : PySem.W.Frag} {h : Heap} {mg : Str → Option Value} (X : K.In h) (G : h.Ns mainGlobals mg) {f : Addr} {od an : Option Addr} {sl : Array (Option Value)} {oc kV dc pm cd ct : Value}
    (a : PySem.W.nsIn K mainGlobals "_law_lowest" = some (some (.ref f))) (l : K.lookup f = some ⟨oc, od, .func (PySem.W.fnOf "_law_lowest" "_law_lowest" (defArgs s_law_lowest) (defBody s_law_lowest) (defScope s_law_lowest) .none kV dc pm an cd ct), sl⟩) (c : PySem.W.codeIn K cd "_law_lowest" = true) (k : PySem.W.keepIn K (.ref f) = true) : Def K mg "_law_lowest" s_law_lowest ["counts"] := by
  have F := fun_mk (st := s_law_lowest) l c k
  exact ⟨f, _, F, F.binds (ps := ["counts"]) (fun _ _ _ _ _ _ us hl => match us, hl with | [_], _ => rfl), PySem.W.mg_of X G a⟩
theorem mk_law_made {K : PySem.W.Frag} {h : Heap} {mg : Str → Option Value} (X : K.In h) (G : h.Ns mainGlobals mg) {f : Addr} {od an : Option Addr} {sl : Array (Option Value)} {oc kV dc pm cd ct : Value}
    (a : PySem.W.nsIn K mainGlobals "_law_made" = some (some (.ref f))) (l : K.lookup f = some ⟨oc, od, .func (PySem.W.fnOf "_law_made" "_law_made" (defArgs s_law_made) (defBody s_law_made) (defScope s_law_made) .none kV dc pm an cd ct), sl⟩) (c : PySem.W.codeIn K cd "_law_made" = true) (k : PySem.W.keepIn K (.ref f) = true) : Def K mg "_law_made" s_law_made ["counts", "thing"] := by
  have F := fun_mk (st := s_law_made) l c k
  exact ⟨f, _, F, F.binds (ps := ["counts", "thing"]) (fun _ _ _ _ _ _ us hl => match us, hl with | [_, _], _ => rfl), PySem.W.mg_of X G a⟩
theorem mk_law_asked {K : PySem.W.Frag} {h : Heap} {mg : Str → Option Value} (X : K.In h) (G : h.Ns mainGlobals mg) {f : Addr} {od an : Option Addr} {sl : Array (Option Value)} {oc kV dc pm cd ct : Value}
    (a : PySem.W.nsIn K mainGlobals "_law_asked" = some (some (.ref f))) (l : K.lookup f = some ⟨oc, od, .func (PySem.W.fnOf "_law_asked" "_law_asked" (defArgs s_law_asked) (defBody s_law_asked) (defScope s_law_asked) .none kV dc pm an cd ct), sl⟩) (c : PySem.W.codeIn K cd "_law_asked" = true) (k : PySem.W.keepIn K (.ref f) = true) : Def K mg "_law_asked" s_law_asked ["counts", "weave"] := by
  have F := fun_mk (st := s_law_asked) l c k
  exact ⟨f, _, F, F.binds (ps := ["counts", "weave"]) (fun _ _ _ _ _ _ us hl => match us, hl with | [_, _], _ => rfl), PySem.W.mg_of X G a⟩
theorem mk_law_steeper {K : PySem.W.Frag} {h : Heap} {mg : Str → Option Value} (X : K.In h) (G : h.Ns mainGlobals mg) {f : Addr} {od an : Option Addr} {sl : Array (Option Value)} {oc kV dc pm cd ct : Value}
    (a : PySem.W.nsIn K mainGlobals "_law_steeper" = some (some (.ref f))) (l : K.lookup f = some ⟨oc, od, .func (PySem.W.fnOf "_law_steeper" "_law_steeper" (defArgs s_law_steeper) (defBody s_law_steeper) (defScope s_law_steeper) .none kV dc pm an cd ct), sl⟩) (c : PySem.W.codeIn K cd "_law_steeper" = true) (k : PySem.W.keepIn K (.ref f) = true) : Def K mg "_law_steeper" s_law_steeper ["pool", "counts"] := by
  have F := fun_mk (st := s_law_steeper) l c k
  exact ⟨f, _, F, F.binds (ps := ["pool", "counts"]) (fun _ _ _ _ _ _ us hl => match us, hl with | [_, _], _ => rfl), PySem.W.mg_of X G a⟩
theorem mk_law_climb {K : PySem.W.Frag} {h : Heap} {mg : Str → Option Value} (X : K.In h) (G : h.Ns mainGlobals mg) {f : Addr} {od an : Option Addr} {sl : Array (Option Value)} {oc kV dc pm cd ct : Value}
    (a : PySem.W.nsIn K mainGlobals "_law_climb" = some (some (.ref f))) (l : K.lookup f = some ⟨oc, od, .func (PySem.W.fnOf "_law_climb" "_law_climb" (defArgs s_law_climb) (defBody s_law_climb) (defScope s_law_climb) .none kV dc pm an cd ct), sl⟩) (c : PySem.W.codeIn K cd "_law_climb" = true) (k : PySem.W.keepIn K (.ref f) = true) : Def K mg "_law_climb" s_law_climb ["pool", "counts"] := by
  have F := fun_mk (st := s_law_climb) l c k
  exact ⟨f, _, F, F.binds (ps := ["pool", "counts"]) (fun _ _ _ _ _ _ us hl => match us, hl with | [_, _], _ => rfl), PySem.W.mg_of X G a⟩
theorem mk_law_wide {K : PySem.W.Frag} {h : Heap} {mg : Str → Option Value} (X : K.In h) (G : h.Ns mainGlobals mg) {f : Addr} {od an : Option Addr} {sl : Array (Option Value)} {oc kV dc pm cd ct : Value}
    (a : PySem.W.nsIn K mainGlobals "_law_wide" = some (some (.ref f))) (l : K.lookup f = some ⟨oc, od, .func (PySem.W.fnOf "_law_wide" "_law_wide" (defArgs s_law_wide) (defBody s_law_wide) (defScope s_law_wide) .none kV dc pm an cd ct), sl⟩) (c : PySem.W.codeIn K cd "_law_wide" = true) (k : PySem.W.keepIn K (.ref f) = true) : Def K mg "_law_wide" s_law_wide ["pool"] := by
  have F := fun_mk (st := s_law_wide) l c k
  exact ⟨f, _, F, F.binds (ps := ["pool"]) (fun _ _ _ _ _ _ us hl => match us, hl with | [_], _ => rfl), PySem.W.mg_of X G a⟩
theorem mk_law {K : PySem.W.Frag} {h : Heap} {mg : Str → Option Value} (X : K.In h) (G : h.Ns mainGlobals mg) {f : Addr} {od an : Option Addr} {sl : Array (Option Value)} {oc kV dc pm cd ct : Value}
    (a : PySem.W.nsIn K mainGlobals "law" = some (some (.ref f))) (l : K.lookup f = some ⟨oc, od, .func (PySem.W.fnOf "law" "law" (defArgs s_law) (defBody s_law) (defScope s_law) .none kV dc pm an cd ct), sl⟩) (c : PySem.W.codeIn K cd "law" = true) (k : PySem.W.keepIn K (.ref f) = true) : Def K mg "law" s_law ["script"] := by
  have F := fun_mk (st := s_law) l c k
  exact ⟨f, _, F, F.binds (ps := ["script"]) (fun _ _ _ _ _ _ us hl => match us, hl with | [_], _ => rfl), PySem.W.mg_of X G a⟩
theorem all_mk {P : Program} {w : World} {K : PySem.W.Frag} {h : Heap} {mg : Str → Option Value} {fa : Addr} (X : K.In h) (G : h.Ns mainGlobals mg) (hfa : mg "law" = some (.ref fa))
    {f0 : Addr} {od0 an0 : Option Addr} {sl0 : Array (Option Value)} {oc0 kV0 dc0 pm0 cd0 ct0 : Value} (a0 : PySem.W.nsIn K mainGlobals "balance_at" = some (some (.ref f0))) (l0 : K.lookup f0 = some ⟨oc0, od0, .func (PySem.W.fnOf "balance_at" "balance_at" (defArgs s_balance_at) (defBody s_balance_at) (defScope s_balance_at) .none kV0 dc0 pm0 an0 cd0 ct0), sl0⟩) (c0 : PySem.W.codeIn K cd0 "balance_at" = true) (k0 : PySem.W.keepIn K (.ref f0) = true)
    {f1 : Addr} {od1 an1 : Option Addr} {sl1 : Array (Option Value)} {oc1 kV1 dc1 pm1 cd1 ct1 : Value} (a1 : PySem.W.nsIn K mainGlobals "inner_places" = some (some (.ref f1))) (l1 : K.lookup f1 = some ⟨oc1, od1, .func (PySem.W.fnOf "inner_places" "inner_places" (defArgs s_inner_places) (defBody s_inner_places) (defScope s_inner_places) .none kV1 dc1 pm1 an1 cd1 ct1), sl1⟩) (c1 : PySem.W.codeIn K cd1 "inner_places" = true) (k1 : PySem.W.keepIn K (.ref f1) = true)
    {f2 : Addr} {od2 an2 : Option Addr} {sl2 : Array (Option Value)} {oc2 kV2 dc2 pm2 cd2 ct2 : Value} (a2 : PySem.W.nsIn K mainGlobals "strength_of" = some (some (.ref f2))) (l2 : K.lookup f2 = some ⟨oc2, od2, .func (PySem.W.fnOf "strength_of" "strength_of" (defArgs s_strength_of) (defBody s_strength_of) (defScope s_strength_of) .none kV2 dc2 pm2 an2 cd2 ct2), sl2⟩) (c2 : PySem.W.codeIn K cd2 "strength_of" = true) (k2 : PySem.W.keepIn K (.ref f2) = true)
    {f3 : Addr} {od3 an3 : Option Addr} {sl3 : Array (Option Value)} {oc3 kV3 dc3 pm3 cd3 ct3 : Value} (a3 : PySem.W.nsIn K mainGlobals "is_integer" = some (some (.ref f3))) (l3 : K.lookup f3 = some ⟨oc3, od3, .func (PySem.W.fnOf "is_integer" "is_integer" (defArgs s_is_integer) (defBody s_is_integer) (defScope s_is_integer) .none kV3 dc3 pm3 an3 cd3 ct3), sl3⟩) (c3 : PySem.W.codeIn K cd3 "is_integer" = true) (k3 : PySem.W.keepIn K (.ref f3) = true)
    {f4 : Addr} {od4 an4 : Option Addr} {sl4 : Array (Option Value)} {oc4 kV4 dc4 pm4 cd4 ct4 : Value} (a4 : PySem.W.nsIn K mainGlobals "integer_within" = some (some (.ref f4))) (l4 : K.lookup f4 = some ⟨oc4, od4, .func (PySem.W.fnOf "integer_within" "integer_within" (defArgs s_integer_within) (defBody s_integer_within) (defScope s_integer_within) .none kV4 dc4 pm4 an4 cd4 ct4), sl4⟩) (c4 : PySem.W.codeIn K cd4 "integer_within" = true) (k4 : PySem.W.keepIn K (.ref f4) = true)
    {f5 : Addr} {od5 an5 : Option Addr} {sl5 : Array (Option Value)} {oc5 kV5 dc5 pm5 cd5 ct5 : Value} (a5 : PySem.W.nsIn K mainGlobals "tuple_of" = some (some (.ref f5))) (l5 : K.lookup f5 = some ⟨oc5, od5, .func (PySem.W.fnOf "tuple_of" "tuple_of" (defArgs s_tuple_of) (defBody s_tuple_of) (defScope s_tuple_of) .none kV5 dc5 pm5 an5 cd5 ct5), sl5⟩) (c5 : PySem.W.codeIn K cd5 "tuple_of" = true) (k5 : PySem.W.keepIn K (.ref f5) = true)
    {f6 : Addr} {od6 an6 : Option Addr} {sl6 : Array (Option Value)} {oc6 kV6 dc6 pm6 cd6 ct6 : Value} (a6 : PySem.W.nsIn K mainGlobals "are_integers" = some (some (.ref f6))) (l6 : K.lookup f6 = some ⟨oc6, od6, .func (PySem.W.fnOf "are_integers" "are_integers" (defArgs s_are_integers) (defBody s_are_integers) (defScope s_are_integers) .none kV6 dc6 pm6 an6 cd6 ct6), sl6⟩) (c6 : PySem.W.codeIn K cd6 "are_integers" = true) (k6 : PySem.W.keepIn K (.ref f6) = true)
    {f7 : Addr} {od7 an7 : Option Addr} {sl7 : Array (Option Value)} {oc7 kV7 dc7 pm7 cd7 ct7 : Value} (a7 : PySem.W.nsIn K mainGlobals "counts_of" = some (some (.ref f7))) (l7 : K.lookup f7 = some ⟨oc7, od7, .func (PySem.W.fnOf "counts_of" "counts_of" (defArgs s_counts_of) (defBody s_counts_of) (defScope s_counts_of) .none kV7 dc7 pm7 an7 cd7 ct7), sl7⟩) (c7 : PySem.W.codeIn K cd7 "counts_of" = true) (k7 : PySem.W.keepIn K (.ref f7) = true)
    {f8 : Addr} {od8 an8 : Option Addr} {sl8 : Array (Option Value)} {oc8 kV8 dc8 pm8 cd8 ct8 : Value} (a8 : PySem.W.nsIn K mainGlobals "is_drawn_entry" = some (some (.ref f8))) (l8 : K.lookup f8 = some ⟨oc8, od8, .func (PySem.W.fnOf "is_drawn_entry" "is_drawn_entry" (defArgs s_is_drawn_entry) (defBody s_is_drawn_entry) (defScope s_is_drawn_entry) .none kV8 dc8 pm8 an8 cd8 ct8), sl8⟩) (c8 : PySem.W.codeIn K cd8 "is_drawn_entry" = true) (k8 : PySem.W.keepIn K (.ref f8) = true)
    {f9 : Addr} {od9 an9 : Option Addr} {sl9 : Array (Option Value)} {oc9 kV9 dc9 pm9 cd9 ct9 : Value} (a9 : PySem.W.nsIn K mainGlobals "is_table" = some (some (.ref f9))) (l9 : K.lookup f9 = some ⟨oc9, od9, .func (PySem.W.fnOf "is_table" "is_table" (defArgs s_is_table) (defBody s_is_table) (defScope s_is_table) .none kV9 dc9 pm9 an9 cd9 ct9), sl9⟩) (c9 : PySem.W.codeIn K cd9 "is_table" = true) (k9 : PySem.W.keepIn K (.ref f9) = true)
    {f10 : Addr} {od10 an10 : Option Addr} {sl10 : Array (Option Value)} {oc10 kV10 dc10 pm10 cd10 ct10 : Value} (a10 : PySem.W.nsIn K mainGlobals "low_place" = some (some (.ref f10))) (l10 : K.lookup f10 = some ⟨oc10, od10, .func (PySem.W.fnOf "low_place" "low_place" (defArgs s_low_place) (defBody s_low_place) (defScope s_low_place) .none kV10 dc10 pm10 an10 cd10 ct10), sl10⟩) (c10 : PySem.W.codeIn K cd10 "low_place" = true) (k10 : PySem.W.keepIn K (.ref f10) = true)
    {f11 : Addr} {od11 an11 : Option Addr} {sl11 : Array (Option Value)} {oc11 kV11 dc11 pm11 cd11 ct11 : Value} (a11 : PySem.W.nsIn K mainGlobals "row_by_need" = some (some (.ref f11))) (l11 : K.lookup f11 = some ⟨oc11, od11, .func (PySem.W.fnOf "row_by_need" "row_by_need" (defArgs s_row_by_need) (defBody s_row_by_need) (defScope s_row_by_need) .none kV11 dc11 pm11 an11 cd11 ct11), sl11⟩) (c11 : PySem.W.codeIn K cd11 "row_by_need" = true) (k11 : PySem.W.keepIn K (.ref f11) = true)
    {f12 : Addr} {od12 an12 : Option Addr} {sl12 : Array (Option Value)} {oc12 kV12 dc12 pm12 cd12 ct12 : Value} (a12 : PySem.W.nsIn K mainGlobals "some_weave" = some (some (.ref f12))) (l12 : K.lookup f12 = some ⟨oc12, od12, .func (PySem.W.fnOf "some_weave" "some_weave" (defArgs s_some_weave) (defBody s_some_weave) (defScope s_some_weave) .none kV12 dc12 pm12 an12 cd12 ct12), sl12⟩) (c12 : PySem.W.codeIn K cd12 "some_weave" = true) (k12 : PySem.W.keepIn K (.ref f12) = true)
    {f13 : Addr} {od13 an13 : Option Addr} {sl13 : Array (Option Value)} {oc13 kV13 dc13 pm13 cd13 ct13 : Value} (a13 : PySem.W.nsIn K mainGlobals "weave_answer" = some (some (.ref f13))) (l13 : K.lookup f13 = some ⟨oc13, od13, .func (PySem.W.fnOf "weave_answer" "weave_answer" (defArgs s_weave_answer) (defBody s_weave_answer) (defScope s_weave_answer) .none kV13 dc13 pm13 an13 cd13 ct13), sl13⟩) (c13 : PySem.W.codeIn K cd13 "weave_answer" = true) (k13 : PySem.W.keepIn K (.ref f13) = true)
    {f14 : Addr} {od14 an14 : Option Addr} {sl14 : Array (Option Value)} {oc14 kV14 dc14 pm14 cd14 ct14 : Value} (a14 : PySem.W.nsIn K mainGlobals "has_counts" = some (some (.ref f14))) (l14 : K.lookup f14 = some ⟨oc14, od14, .func (PySem.W.fnOf "has_counts" "has_counts" (defArgs s_has_counts) (defBody s_has_counts) (defScope s_has_counts) .none kV14 dc14 pm14 an14 cd14 ct14), sl14⟩) (c14 : PySem.W.codeIn K cd14 "has_counts" = true) (k14 : PySem.W.keepIn K (.ref f14) = true)
    {f15 : Addr} {od15 an15 : Option Addr} {sl15 : Array (Option Value)} {oc15 kV15 dc15 pm15 cd15 ct15 : Value} (a15 : PySem.W.nsIn K mainGlobals "is_weave_answer" = some (some (.ref f15))) (l15 : K.lookup f15 = some ⟨oc15, od15, .func (PySem.W.fnOf "is_weave_answer" "is_weave_answer" (defArgs s_is_weave_answer) (defBody s_is_weave_answer) (defScope s_is_weave_answer) .none kV15 dc15 pm15 an15 cd15 ct15), sl15⟩) (c15 : PySem.W.codeIn K cd15 "is_weave_answer" = true) (k15 : PySem.W.keepIn K (.ref f15) = true)
    {f16 : Addr} {od16 an16 : Option Addr} {sl16 : Array (Option Value)} {oc16 kV16 dc16 pm16 cd16 ct16 : Value} (a16 : PySem.W.nsIn K mainGlobals "_law_pool" = some (some (.ref f16))) (l16 : K.lookup f16 = some ⟨oc16, od16, .func (PySem.W.fnOf "_law_pool" "_law_pool" (defArgs s_law_pool) (defBody s_law_pool) (defScope s_law_pool) .none kV16 dc16 pm16 an16 cd16 ct16), sl16⟩) (c16 : PySem.W.codeIn K cd16 "_law_pool" = true) (k16 : PySem.W.keepIn K (.ref f16) = true)
    {f17 : Addr} {od17 an17 : Option Addr} {sl17 : Array (Option Value)} {oc17 kV17 dc17 pm17 cd17 ct17 : Value} (a17 : PySem.W.nsIn K mainGlobals "_law_take" = some (some (.ref f17))) (l17 : K.lookup f17 = some ⟨oc17, od17, .func (PySem.W.fnOf "_law_take" "_law_take" (defArgs s_law_take) (defBody s_law_take) (defScope s_law_take) .none kV17 dc17 pm17 an17 cd17 ct17), sl17⟩) (c17 : PySem.W.codeIn K cd17 "_law_take" = true) (k17 : PySem.W.keepIn K (.ref f17) = true)
    {f18 : Addr} {od18 an18 : Option Addr} {sl18 : Array (Option Value)} {oc18 kV18 dc18 pm18 cd18 ct18 : Value} (a18 : PySem.W.nsIn K mainGlobals "_law_same" = some (some (.ref f18))) (l18 : K.lookup f18 = some ⟨oc18, od18, .func (PySem.W.fnOf "_law_same" "_law_same" (defArgs s_law_same) (defBody s_law_same) (defScope s_law_same) .none kV18 dc18 pm18 an18 cd18 ct18), sl18⟩) (c18 : PySem.W.codeIn K cd18 "_law_same" = true) (k18 : PySem.W.keepIn K (.ref f18) = true)
    {f19 : Addr} {od19 an19 : Option Addr} {sl19 : Array (Option Value)} {oc19 kV19 dc19 pm19 cd19 ct19 : Value} (a19 : PySem.W.nsIn K mainGlobals "_law_weave" = some (some (.ref f19))) (l19 : K.lookup f19 = some ⟨oc19, od19, .func (PySem.W.fnOf "_law_weave" "_law_weave" (defArgs s_law_weave) (defBody s_law_weave) (defScope s_law_weave) .none kV19 dc19 pm19 an19 cd19 ct19), sl19⟩) (c19 : PySem.W.codeIn K cd19 "_law_weave" = true) (k19 : PySem.W.keepIn K (.ref f19) = true)
    {f20 : Addr} {od20 an20 : Option Addr} {sl20 : Array (Option Value)} {oc20 kV20 dc20 pm20 cd20 ct20 : Value} (a20 : PySem.W.nsIn K mainGlobals "_law_counts" = some (some (.ref f20))) (l20 : K.lookup f20 = some ⟨oc20, od20, .func (PySem.W.fnOf "_law_counts" "_law_counts" (defArgs s_law_counts) (defBody s_law_counts) (defScope s_law_counts) .none kV20 dc20 pm20 an20 cd20 ct20), sl20⟩) (c20 : PySem.W.codeIn K cd20 "_law_counts" = true) (k20 : PySem.W.keepIn K (.ref f20) = true)
    {f21 : Addr} {od21 an21 : Option Addr} {sl21 : Array (Option Value)} {oc21 kV21 dc21 pm21 cd21 ct21 : Value} (a21 : PySem.W.nsIn K mainGlobals "_law_balance" = some (some (.ref f21))) (l21 : K.lookup f21 = some ⟨oc21, od21, .func (PySem.W.fnOf "_law_balance" "_law_balance" (defArgs s_law_balance) (defBody s_law_balance) (defScope s_law_balance) .none kV21 dc21 pm21 an21 cd21 ct21), sl21⟩) (c21 : PySem.W.codeIn K cd21 "_law_balance" = true) (k21 : PySem.W.keepIn K (.ref f21) = true)
    {f22 : Addr} {od22 an22 : Option Addr} {sl22 : Array (Option Value)} {oc22 kV22 dc22 pm22 cd22 ct22 : Value} (a22 : PySem.W.nsIn K mainGlobals "_law_balances" = some (some (.ref f22))) (l22 : K.lookup f22 = some ⟨oc22, od22, .func (PySem.W.fnOf "_law_balances" "_law_balances" (defArgs s_law_balances) (defBody s_law_balances) (defScope s_law_balances) .none kV22 dc22 pm22 an22 cd22 ct22), sl22⟩) (c22 : PySem.W.codeIn K cd22 "_law_balances" = true) (k22 : PySem.W.keepIn K (.ref f22) = true)
    {f23 : Addr} {od23 an23 : Option Addr} {sl23 : Array (Option Value)} {oc23 kV23 dc23 pm23 cd23 ct23 : Value} (a23 : PySem.W.nsIn K mainGlobals "_law_lowest" = some (some (.ref f23))) (l23 : K.lookup f23 = some ⟨oc23, od23, .func (PySem.W.fnOf "_law_lowest" "_law_lowest" (defArgs s_law_lowest) (defBody s_law_lowest) (defScope s_law_lowest) .none kV23 dc23 pm23 an23 cd23 ct23), sl23⟩) (c23 : PySem.W.codeIn K cd23 "_law_lowest" = true) (k23 : PySem.W.keepIn K (.ref f23) = true)
    {f24 : Addr} {od24 an24 : Option Addr} {sl24 : Array (Option Value)} {oc24 kV24 dc24 pm24 cd24 ct24 : Value} (a24 : PySem.W.nsIn K mainGlobals "_law_made" = some (some (.ref f24))) (l24 : K.lookup f24 = some ⟨oc24, od24, .func (PySem.W.fnOf "_law_made" "_law_made" (defArgs s_law_made) (defBody s_law_made) (defScope s_law_made) .none kV24 dc24 pm24 an24 cd24 ct24), sl24⟩) (c24 : PySem.W.codeIn K cd24 "_law_made" = true) (k24 : PySem.W.keepIn K (.ref f24) = true)
    {f25 : Addr} {od25 an25 : Option Addr} {sl25 : Array (Option Value)} {oc25 kV25 dc25 pm25 cd25 ct25 : Value} (a25 : PySem.W.nsIn K mainGlobals "_law_asked" = some (some (.ref f25))) (l25 : K.lookup f25 = some ⟨oc25, od25, .func (PySem.W.fnOf "_law_asked" "_law_asked" (defArgs s_law_asked) (defBody s_law_asked) (defScope s_law_asked) .none kV25 dc25 pm25 an25 cd25 ct25), sl25⟩) (c25 : PySem.W.codeIn K cd25 "_law_asked" = true) (k25 : PySem.W.keepIn K (.ref f25) = true)
    {f26 : Addr} {od26 an26 : Option Addr} {sl26 : Array (Option Value)} {oc26 kV26 dc26 pm26 cd26 ct26 : Value} (a26 : PySem.W.nsIn K mainGlobals "_law_steeper" = some (some (.ref f26))) (l26 : K.lookup f26 = some ⟨oc26, od26, .func (PySem.W.fnOf "_law_steeper" "_law_steeper" (defArgs s_law_steeper) (defBody s_law_steeper) (defScope s_law_steeper) .none kV26 dc26 pm26 an26 cd26 ct26), sl26⟩) (c26 : PySem.W.codeIn K cd26 "_law_steeper" = true) (k26 : PySem.W.keepIn K (.ref f26) = true)
    {f27 : Addr} {od27 an27 : Option Addr} {sl27 : Array (Option Value)} {oc27 kV27 dc27 pm27 cd27 ct27 : Value} (a27 : PySem.W.nsIn K mainGlobals "_law_climb" = some (some (.ref f27))) (l27 : K.lookup f27 = some ⟨oc27, od27, .func (PySem.W.fnOf "_law_climb" "_law_climb" (defArgs s_law_climb) (defBody s_law_climb) (defScope s_law_climb) .none kV27 dc27 pm27 an27 cd27 ct27), sl27⟩) (c27 : PySem.W.codeIn K cd27 "_law_climb" = true) (k27 : PySem.W.keepIn K (.ref f27) = true)
    {f28 : Addr} {od28 an28 : Option Addr} {sl28 : Array (Option Value)} {oc28 kV28 dc28 pm28 cd28 ct28 : Value} (a28 : PySem.W.nsIn K mainGlobals "_law_wide" = some (some (.ref f28))) (l28 : K.lookup f28 = some ⟨oc28, od28, .func (PySem.W.fnOf "_law_wide" "_law_wide" (defArgs s_law_wide) (defBody s_law_wide) (defScope s_law_wide) .none kV28 dc28 pm28 an28 cd28 ct28), sl28⟩) (c28 : PySem.W.codeIn K cd28 "_law_wide" = true) (k28 : PySem.W.keepIn K (.ref f28) = true)
    {f29 : Addr} {od29 an29 : Option Addr} {sl29 : Array (Option Value)} {oc29 kV29 dc29 pm29 cd29 ct29 : Value} (a29 : PySem.W.nsIn K mainGlobals "law" = some (some (.ref f29))) (l29 : K.lookup f29 = some ⟨oc29, od29, .func (PySem.W.fnOf "law" "law" (defArgs s_law) (defBody s_law) (defScope s_law) .none kV29 dc29 pm29 an29 cd29 ct29), sl29⟩) (c29 : PySem.W.codeIn K cd29 "law" = true) (k29 : PySem.W.keepIn K (.ref f29) = true)
    (z0 : PySem.W.nsIn K mainGlobals "abs" = some none)
    (z1 : PySem.W.nsIn K mainGlobals "all" = some none)
    (z2 : PySem.W.nsIn K mainGlobals "bool" = some none)
    (z3 : PySem.W.nsIn K mainGlobals "enumerate" = some none)
    (z4 : PySem.W.nsIn K mainGlobals "int" = some none)
    (z5 : PySem.W.nsIn K mainGlobals "isinstance" = some none)
    (z6 : PySem.W.nsIn K mainGlobals "len" = some none)
    (z7 : PySem.W.nsIn K mainGlobals "list" = some none)
    (z8 : PySem.W.nsIn K mainGlobals "min" = some none)
    (z9 : PySem.W.nsIn K mainGlobals "range" = some none)
    (z10 : PySem.W.nsIn K mainGlobals "sorted" = some none)
    (z11 : PySem.W.nsIn K mainGlobals "str" = some none)
    (z12 : PySem.W.nsIn K mainGlobals "sum" = some none)
    (z13 : PySem.W.nsIn K mainGlobals "tuple" = some none)
    (z14 : PySem.W.nsIn K mainGlobals "zip" = some none)
    : ∃ fd : FuncData, (∀ (s : Shared) (v : Value), BindsTo s fd ⟨[v], []⟩ [("script", v)]) ∧ ∀ base : Heap, K.In base → base.Ns mainGlobals mg → FnOk P w K mg base CX0 8 fa fd ["script"] (spOf K 1 SLaw) := by
  have A : All K mg := ⟨mk_balance_at X G a0 l0 c0 k0, mk_inner_places X G a1 l1 c1 k1, mk_strength_of X G a2 l2 c2 k2, mk_is_integer X G a3 l3 c3 k3, mk_integer_within X G a4 l4 c4 k4, mk_tuple_of X G a5 l5 c5 k5, mk_are_integers X G a6 l6 c6 k6, mk_counts_of X G a7 l7 c7 k7, mk_is_drawn_entry X G a8 l8 c8 k8, mk_is_table X G a9 l9 c9 k9, mk_low_place X G a10 l10 c10 k10, mk_row_by_need X G a11 l11 c11 k11, mk_some_weave X G a12 l12 c12 k12, mk_weave_answer X G a13 l13 c13 k13, mk_has_counts X G a14 l14 c14 k14, mk_is_weave_answer X G a15 l15 c15 k15, mk_law_pool X G a16 l16 c16 k16, mk_law_take X G a17 l17 c17 k17, mk_law_same X G a18 l18 c18 k18, mk_law_weave X G a19 l19 c19 k19, mk_law_counts X G a20 l20 c20 k20, mk_law_balance X G a21 l21 c21 k21, mk_law_balances X G a22 l22 c22 k22, mk_law_lowest X G a23 l23 c23 k23, mk_law_made X G a24 l24 c24 k24, mk_law_asked X G a25 l25 c25 k25, mk_law_steeper X G a26 l26 c26 k26, mk_law_climb X G a27 l27 c27 k27, mk_law_wide X G a28 l28 c28 k28, mk_law X G a29 l29 c29 k29, PySem.W.mg_none_of X G z0, PySem.W.mg_none_of X G z1, PySem.W.mg_none_of X G z2, PySem.W.mg_none_of X G z3, PySem.W.mg_none_of X G z4, PySem.W.mg_none_of X G z5, PySem.W.mg_none_of X G z6, PySem.W.mg_none_of X G z7, PySem.W.mg_none_of X G z8, PySem.W.mg_none_of X G z9, PySem.W.mg_none_of X G z10, PySem.W.mg_none_of X G z11, PySem.W.mg_none_of X G z12, PySem.W.mg_none_of X G z13, PySem.W.mg_none_of X G z14⟩
  have e := hfa.symm.trans (PySem.W.mg_of X G a29)
  cases e
  refine ⟨PySem.W.fnOf "law" "law" (defArgs s_law) (defBody s_law) (defScope s_law) .none kV29 dc29 pm29 an29 cd29 ct29, fun s v => .of_eq rfl, fun base _ _ => ?_⟩
  exact ok_law A (fun_mk (st := s_law) l29 c29 k29)
end K65
open PySem PySem.W PyProof.Rows
set_option maxHeartbeats 0 in
theorem PySem.Challenge.cw_clothinonepiece_k65_whole_counts_wide_holds : PySem.Challenge.rw_clothinonepiece_k65_whole_counts_wide.Holds := by
  w_on; o_law; k_head; (case hw => w_witness2)
  k_fill
  refine L2.walk_ofK (l := PySem.Challenge.rw_clothinonepiece_k65_whole_counts_wide) (n := 63) (k := 8) (x := "script") (CX := L2.CX0) (sp := fun K => Asl.spOf K 1 Asl.SLaw) rfl (by decide) rfl ⟨rfl, by decide, by decide⟩ (fun w h Y => PySem.W.kIn_of Y) ?F (fun K H a ns hl _ hS => Asl.law_sp hS) (fun _ _ _ _ h => h)
  case F =>
    intro w mg fa h KX G hmg
    refine' K65.all_mk KX G hmg ?a0 ?l0 ?c0 ?k0 ?a1 ?l1 ?c1 ?k1 ?a2 ?l2 ?c2 ?k2 ?a3 ?l3 ?c3 ?k3 ?a4 ?l4 ?c4 ?k4 ?a5 ?l5 ?c5 ?k5 ?a6 ?l6 ?c6 ?k6 ?a7 ?l7 ?c7 ?k7 ?a8 ?l8 ?c8 ?k8 ?a9 ?l9 ?c9 ?k9 ?a10 ?l10 ?c10 ?k10 ?a11 ?l11 ?c11 ?k11 ?a12 ?l12 ?c12 ?k12 ?a13 ?l13 ?c13 ?k13 ?a14 ?l14 ?c14 ?k14 ?a15 ?l15 ?c15 ?k15 ?a16 ?l16 ?c16 ?k16 ?a17 ?l17 ?c17 ?k17 ?a18 ?l18 ?c18 ?k18 ?a19 ?l19 ?c19 ?k19 ?a20 ?l20 ?c20 ?k20 ?a21 ?l21 ?c21 ?k21 ?a22 ?l22 ?c22 ?k22 ?a23 ?l23 ?c23 ?k23 ?a24 ?l24 ?c24 ?k24 ?a25 ?l25 ?c25 ?k25 ?a26 ?l26 ?c26 ?k26 ?a27 ?l27 ?c27 ?k27 ?a28 ?l28 ?c28 ?k28 ?a29 ?l29 ?c29 ?k29 ?z0 ?z1 ?z2 ?z3 ?z4 ?z5 ?z6 ?z7 ?z8 ?z9 ?z10 ?z11 ?z12 ?z13 ?z14
    (case a0 => k_is)
    (case l0 => k_is)
    (case c0 => k_is)
    (case k0 => k_is)
    (case a1 => k_is)
    (case l1 => k_is)
    (case c1 => k_is)
    (case k1 => k_is)
    (case a2 => k_is)
    (case l2 => k_is)
    (case c2 => k_is)
    (case k2 => k_is)
    (case a3 => k_is)
    (case l3 => k_is)
    (case c3 => k_is)
    (case k3 => k_is)
    (case a4 => k_is)
    (case l4 => k_is)
    (case c4 => k_is)
    (case k4 => k_is)
    (case a5 => k_is)
    (case l5 => k_is)
    (case c5 => k_is)
    (case k5 => k_is)
    (case a6 => k_is)
    (case l6 => k_is)
    (case c6 => k_is)
    (case k6 => k_is)
    (case a7 => k_is)
    (case l7 => k_is)
    (case c7 => k_is)
    (case k7 => k_is)
    (case a8 => k_is)
    (case l8 => k_is)
    (case c8 => k_is)
    (case k8 => k_is)
    (case a9 => k_is)
    (case l9 => k_is)
    (case c9 => k_is)
    (case k9 => k_is)
    (case a10 => k_is)
    (case l10 => k_is)
    (case c10 => k_is)
    (case k10 => k_is)
    (case a11 => k_is)
    (case l11 => k_is)
    (case c11 => k_is)
    (case k11 => k_is)
    (case a12 => k_is)
    (case l12 => k_is)
    (case c12 => k_is)
    (case k12 => k_is)
    (case a13 => k_is)
    (case l13 => k_is)
    (case c13 => k_is)
    (case k13 => k_is)
    (case a14 => k_is)
    (case l14 => k_is)
    (case c14 => k_is)
    (case k14 => k_is)
    (case a15 => k_is)
    (case l15 => k_is)
    (case c15 => k_is)
    (case k15 => k_is)
    (case a16 => k_is)
    (case l16 => k_is)
    (case c16 => k_is)
    (case k16 => k_is)
    (case a17 => k_is)
    (case l17 => k_is)
    (case c17 => k_is)
    (case k17 => k_is)
    (case a18 => k_is)
    (case l18 => k_is)
    (case c18 => k_is)
    (case k18 => k_is)
    (case a19 => k_is)
    (case l19 => k_is)
    (case c19 => k_is)
    (case k19 => k_is)
    (case a20 => k_is)
    (case l20 => k_is)
    (case c20 => k_is)
    (case k20 => k_is)
    (case a21 => k_is)
    (case l21 => k_is)
    (case c21 => k_is)
    (case k21 => k_is)
    (case a22 => k_is)
    (case l22 => k_is)
    (case c22 => k_is)
    (case k22 => k_is)
    (case a23 => k_is)
    (case l23 => k_is)
    (case c23 => k_is)
    (case k23 => k_is)
    (case a24 => k_is)
    (case l24 => k_is)
    (case c24 => k_is)
    (case k24 => k_is)
    (case a25 => k_is)
    (case l25 => k_is)
    (case c25 => k_is)
    (case k25 => k_is)
    (case a26 => k_is)
    (case l26 => k_is)
    (case c26 => k_is)
    (case k26 => k_is)
    (case a27 => k_is)
    (case l27 => k_is)
    (case c27 => k_is)
    (case k27 => k_is)
    (case a28 => k_is)
    (case l28 => k_is)
    (case c28 => k_is)
    (case k28 => k_is)
    (case a29 => k_is)
    (case l29 => k_is)
    (case c29 => k_is)
    (case k29 => k_is)
    (case z0 => k_is)
    (case z1 => k_is)
    (case z2 => k_is)
    (case z3 => k_is)
    (case z4 => k_is)
    (case z5 => k_is)
    (case z6 => k_is)
    (case z7 => k_is)
    (case z8 => k_is)
    (case z9 => k_is)
    (case z10 => k_is)
    (case z11 => k_is)
    (case z12 => k_is)
    (case z13 => k_is)
    (case z14 => k_is)

