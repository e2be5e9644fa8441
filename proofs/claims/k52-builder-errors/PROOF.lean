import PyProof.Rows.All
import Wide.All
import OpenK.AllK
import Wide.FinOn
import HandS.ForMost
import HandS.ForExc
import HandS.Flow
import HandS.Wide
import HandS.WideMore
import HandS.WideBits
import HandS.Defaults
import HandS.IsInst
import HandS.TryMany
import HandS.ExcInit
import HandS.ExcField
import HandS.RaiseMore
import HandS.ExcCtx
import PyProof.ReprRoads
import HandS.Style
import PyProof.ReprLen
import HandS.Text
import PyProof.ListStr
import HandS.TupAny
import HandS.ExcValue
import HandS.ExcIs
import KE.KExcIs
import HandS.SortKw
import HandS.Conv
import HandS.Replace
import PyProof.Draws
import PyProof.EnumMake
import HandS.Zip
import HandS.Hot
import HandS.HotCalls
import KE.SortData
import PyProof.Claim2Refuses
import HandS.SetFor
import HandS.Strs
import HandS.SetTxt0
import HandS.More
import HandS.Deep
import KE.KDictZip
import KE.DataCmp
import PySem.Challenge.RW_slashlevels_k52_builder_errors
set_option Elab.async false
set_option linter.all false
set_option maxRecDepth 100000
set_option exponentiation.threshold 10000
set_option maxHeartbeats 0
/-! VSa: data D, what represents it, abstract states, the judgements EX, VW, EO, TX, SX. -/
namespace VS
open PySem PySem.Spec PyProof.Rows L2
abbrev St := L2.St
/-- data without addresses -/
inductive D where
  | non | bl (b : Bool) | int (i : Int) | str (x : Str) | lst (xs : List D) | tup (xs : List D) | dic | obj (C : Str) (ns : List Str) (xs : List D)
  /-- a dict with these ints as keys -/
  | dct (ks : List Int) (xs : List D)
/-- the names of an exception's fields begin so -/
def isX (ns : List Str) : Bool := ns.head? == some ("!" : Str)
/-- at a stands this very object -/
def xo (a : Addr) (oe : Obj) : HO := .ext fun h => h.get? a = some oe
/-- an instance of the class at C, or an exception -/
def ObjAt (G : Hp) (C a : Addr) (ns : List Str) (vs : List V) : Prop :=
  (isX ns = false ∧ ∃ dx, G a = some (.ins C dx (ns.zip vs)) ∧ G dx = some (.own a)) ∨
  (isX ns = true ∧ ∃ oe, G a = some (xo a oe) ∧ oe.cls = .ref C ∧ (∃ fv, oe.data = .fields fv) ∧ match ns.tail, vs.tail with
    | [], _ => oe.dict = none
    | f :: _, v :: _ => ∃ dx, oe.dict = some dx ∧ G dx = some (.xd [(f, v)])
    | _ :: _, [] => False)
theorem ObjAt.mono {G G' : Hp} (e : Same G G') {C a : Addr} {ns : List Str} {vs : List V} (h : ObjAt G C a ns vs) : ObjAt G' C a ns vs := by
  rcases h with ⟨h0, dx, h1, h2⟩ | ⟨h0, oe, h1, h2, h3, h4⟩
  · exact .inl ⟨h0, dx, e _ _ h1, e _ _ h2⟩
  · refine .inr ⟨h0, oe, e _ _ h1, h2, h3, ?_⟩
    split at h4
    · exact h4
    · obtain ⟨dx, k1, k2⟩ := h4
      exact ⟨dx, k1, e _ _ k2⟩
    · exact h4
mutual
/-- v represents d in the heap G -/
def Rp (K : PySem.W.Frag) (G : Hp) : D → V → Prop
  | .non, v => v = .non
  | .bl b, v => v = .bl b
  | .int i, v => v = .int i
  | .str x, v => v = .str x
  | .lst xs, v => ∃ a vs, v = .ref a ∧ SqL K G a vs ∧ RpL K G xs vs
  | .tup xs, v => ∃ a vs, v = .ref a ∧ SqT K G a vs ∧ RpL K G xs vs
  | .dic, v => ∃ a, v = .ref a ∧ G a = some (.dK [])
  | .dct ks xs, v => ∃ a vs, v = .ref a ∧ ks.length = xs.length ∧ RpL K G xs vs ∧ G a = some (.dK ((ks.map Sum.inl).zip vs))
  | .obj c ns xs, v => ∃ C a vs, PySem.W.nsIn K mainGlobals c = some (some (.ref C)) ∧ v = .ref a ∧ ns.length = xs.length ∧ RpL K G xs vs ∧ ObjAt G C a ns vs
def RpL (K : PySem.W.Frag) (G : Hp) : List D → List V → Prop
  | [], vs => vs = []
  | d :: ds, vs => ∃ v r, vs = v :: r ∧ Rp K G d v ∧ RpL K G ds r
end
theorem Same.seqT {K : PySem.W.Frag} {H H' : Hp} {a : Addr} {xs : List V} (e : Same H H') (h : SqT K H a xs) : SqT K H' a xs := by
  rcases h with (h | ⟨o, h⟩) | h
  · exact .inl (.inl (e _ _ h))
  · exact .inl (.inr ⟨o, e _ _ h⟩)
  · exact .inr h
mutual
theorem Rp.mono {K : PySem.W.Frag} {G G' : Hp} (e : Same G G') : ∀ {d : D} {v : V}, Rp K G d v → Rp K G' d v
  | .non, _, h => by unfold Rp at *; exact h
  | .bl b, _, h => by unfold Rp at *; exact h
  | .int i, _, h => by unfold Rp at *; exact h
  | .str x, _, h => by unfold Rp at *; exact h
  | .lst xs, _, h => by
    unfold Rp at *
    obtain ⟨a, vs, h1, h2, h3⟩ := h
    exact ⟨a, vs, h1, e.seq h2, RpL.mono e h3⟩
  | .tup xs, _, h => by
    unfold Rp at *
    obtain ⟨a, vs, h1, h2, h3⟩ := h
    exact ⟨a, vs, h1, Same.seqT e h2, RpL.mono e h3⟩
  | .dic, _, h => by
    unfold Rp at *
    obtain ⟨a, h1, h2⟩ := h
    exact ⟨a, h1, e _ _ h2⟩
  | .dct ks xs, _, h => by
    unfold Rp at *
    obtain ⟨a, vs, h1, h2, h3, h4⟩ := h
    exact ⟨a, vs, h1, h2, RpL.mono e h3, e _ _ h4⟩
  | .obj C ns xs, _, h => by
    unfold Rp at *
    obtain ⟨A, a, vs, h0, h1, h2, h3, h4⟩ := h
    exact ⟨A, a, vs, h0, h1, h2, RpL.mono e h3, h4.mono e⟩
theorem RpL.mono {K : PySem.W.Frag} {G G' : Hp} (e : Same G G') : ∀ {ds : List D} {vs : List V}, RpL K G ds vs → RpL K G' ds vs
  | [], _, h => by unfold RpL at *; exact h
  | d :: ds, _, h => by
    unfold RpL at *
    obtain ⟨v, r, h1, h2, h3⟩ := h
    exact ⟨v, r, h1, Rp.mono e h2, RpL.mono e h3⟩
end
section
variable {K : PySem.W.Frag} {G : Hp}
theorem rp_non {v : V} : Rp K G .non v ↔ v = .non := by unfold Rp; rfl
theorem rp_bl {v : V} {b : Bool} : Rp K G (.bl b) v ↔ v = .bl b := by unfold Rp; rfl
theorem rp_int {v : V} {i : Int} : Rp K G (.int i) v ↔ v = .int i := by unfold Rp; rfl
theorem rp_str {v : V} {x : Str} : Rp K G (.str x) v ↔ v = .str x := by unfold Rp; rfl
theorem rp_lst {v : V} {xs : List D} : Rp K G (.lst xs) v ↔ ∃ a vs, v = .ref a ∧ SqL K G a vs ∧ RpL K G xs vs := by conv => lhs; unfold Rp
theorem rp_tup {v : V} {xs : List D} : Rp K G (.tup xs) v ↔ ∃ a vs, v = .ref a ∧ SqT K G a vs ∧ RpL K G xs vs := by conv => lhs; unfold Rp
theorem rp_dic {v : V} : Rp K G .dic v ↔ ∃ a, v = .ref a ∧ G a = some (.dK []) := by conv => lhs; unfold Rp
theorem rp_dct {v : V} {ks : List Int} {xs : List D} : Rp K G (.dct ks xs) v ↔ ∃ a vs, v = .ref a ∧ ks.length = xs.length ∧ RpL K G xs vs ∧ G a = some (.dK ((ks.map Sum.inl).zip vs)) := by conv => lhs; unfold Rp
theorem rp_objA {v : V} {c : Str} {ns : List Str} {xs : List D} : Rp K G (.obj c ns xs) v ↔ ∃ C a vs, PySem.W.nsIn K mainGlobals c = some (some (.ref C)) ∧ v = .ref a ∧ ns.length = xs.length ∧ RpL K G xs vs ∧ ObjAt G C a ns vs := by conv => lhs; unfold Rp
theorem rp_obj {v : V} {c : Str} {ns : List Str} {xs : List D} (hx : isX ns = false) : Rp K G (.obj c ns xs) v ↔ ∃ C a dx vs, PySem.W.nsIn K mainGlobals c = some (some (.ref C)) ∧ v = .ref a ∧ G a = some (.ins C dx (ns.zip vs)) ∧ G dx = some (.own a) ∧ ns.length = xs.length ∧ RpL K G xs vs := by
  rw [rp_objA]
  constructor
  · rintro ⟨C, a, vs, h0, h1, h2, h3, ⟨_, dx, h4, h5⟩ | ⟨z, _⟩⟩
    · exact ⟨C, a, dx, vs, h0, h1, h4, h5, h2, h3⟩
    · rw [hx] at z; cases z
  · rintro ⟨C, a, dx, vs, h0, h1, h4, h5, h2, h3⟩
    exact ⟨C, a, vs, h0, h1, h2, h3, .inl ⟨hx, dx, h4, h5⟩⟩
theorem rpl_nil {vs : List V} : RpL K G [] vs ↔ vs = [] := by unfold RpL; rfl
theorem rpl_cons {d : D} {ds : List D} {vs : List V} : RpL K G (d :: ds) vs ↔ ∃ v r, vs = v :: r ∧ Rp K G d v ∧ RpL K G ds r := by conv => lhs; unfold RpL
theorem RpL.nil : RpL K G [] [] := rpl_nil.mpr rfl
theorem RpL.cons {d : D} {ds : List D} {v : V} {vs : List V} (h : Rp K G d v) (t : RpL K G ds vs) : RpL K G (d :: ds) (v :: vs) := rpl_cons.mpr ⟨v, vs, rfl, h, t⟩
theorem RpL.length : ∀ {ds : List D} {vs : List V}, RpL K G ds vs → ds.length = vs.length
  | [], _, h => by rw [rpl_nil.mp h]; rfl
  | d :: ds, _, h => by
    obtain ⟨v, r, rfl, _, h3⟩ := rpl_cons.mp h
    rw [List.length_cons, List.length_cons, RpL.length h3]
theorem RpL.get : ∀ {ds : List D} {vs : List V} {i : Nat} {d : D}, RpL K G ds vs → ds[i]? = some d → ∃ v, vs[i]? = some v ∧ Rp K G d v
  | [], _, _, _, _, e => by simp at e
  | d :: ds, _, 0, _, h, e => by
    obtain ⟨v, r, rfl, h2, _⟩ := rpl_cons.mp h
    have e' : d = _ := Option.some.inj e
    subst e'
    exact ⟨v, rfl, h2⟩
  | d :: ds, _, i + 1, x, h, e => by
    obtain ⟨v, r, rfl, _, h3⟩ := rpl_cons.mp h
    exact RpL.get (i := i) (d := x) h3 e
theorem RpL.append : ∀ {ds es : List D} {vs us : List V}, RpL K G ds vs → RpL K G es us → RpL K G (ds ++ es) (vs ++ us)
  | [], _, _, _, h, k => by rw [rpl_nil.mp h]; exact k
  | d :: ds, _, _, _, h, k => by
    obtain ⟨v, r, rfl, h2, h3⟩ := rpl_cons.mp h
    exact RpL.cons h2 (RpL.append h3 k)
theorem RpL.take : ∀ {ds : List D} {vs : List V} (n : Nat), RpL K G ds vs → RpL K G (ds.take n) (vs.take n)
  | _, _, 0, _ => RpL.nil
  | [], _, n + 1, h => by rw [rpl_nil.mp h]; exact RpL.nil
  | d :: ds, _, n + 1, h => by
    obtain ⟨v, r, rfl, h2, h3⟩ := rpl_cons.mp h
    exact RpL.cons h2 (RpL.take n h3)
theorem RpL.drop : ∀ {ds : List D} {vs : List V} (n : Nat), RpL K G ds vs → RpL K G (ds.drop n) (vs.drop n)
  | _, _, 0, h => h
  | [], _, n + 1, h => by rw [rpl_nil.mp h]; exact RpL.nil
  | d :: ds, _, n + 1, h => by
    obtain ⟨v, r, rfl, h2, h3⟩ := rpl_cons.mp h
    exact RpL.drop n h3
theorem RpL.set {x : D} {u : V} (hx : Rp K G x u) : ∀ {ds : List D} {vs : List V} (i : Nat), RpL K G ds vs → RpL K G (ds.set i x) (vs.set i u)
  | [], _, _, h => by rw [rpl_nil.mp h]; exact RpL.nil
  | d :: ds, _, 0, h => by
    obtain ⟨v, r, rfl, _, h3⟩ := rpl_cons.mp h
    exact RpL.cons hx h3
  | d :: ds, _, i + 1, h => by
    obtain ⟨v, r, rfl, h2, h3⟩ := rpl_cons.mp h
    exact RpL.cons h2 (RpL.set hx i h3)
theorem RpL.dropLast {ds : List D} {vs : List V} (h : RpL K G ds vs) : RpL K G ds.dropLast vs.dropLast := by
  rw [List.dropLast_eq_take, List.dropLast_eq_take, h.length]
  exact h.take _
theorem RpL.eraseIdx {ds : List D} {vs : List V} (i : Nat) (h : RpL K G ds vs) : RpL K G (ds.eraseIdx i) (vs.eraseIdx i) := by
  rw [List.eraseIdx_eq_take_drop_succ, List.eraseIdx_eq_take_drop_succ]
  exact (h.take _).append (h.drop _)
theorem RpL.ints : ∀ (ns : List Int), RpL K G (ns.map D.int) (ns.map V.int)
  | [] => RpL.nil
  | n :: ns => RpL.cons (rp_int.mpr rfl) (RpL.ints ns)
theorem RpL.unbls : ∀ {bs : List Bool} {vs : List V}, RpL K G (bs.map D.bl) vs → vs = bs.map V.bl
  | [], _, h => rpl_nil.mp h
  | n :: ns, _, h => by
    obtain ⟨v, r, rfl, h2, h3⟩ := rpl_cons.mp h
    rw [rp_bl.mp h2, RpL.unbls h3]
    rfl
end
/-! ### lists of one's own within lists of one's own -/
/-- a list of its own at a, whose items may be such lists or tuples with such lists -/
inductive Tr where
  | leaf (d : D) | lst (a : Addr) (ts : List Tr) | tup (ts : List Tr)
  /-- as a whole slot only: a name for the list at a, which is out of sight -/
  | hole (a : Addr)
  /-- as a whole slot only: data for a while, at a known place -/
  | frz (a : Addr) (d : D)
  /-- as a whole slot only: a list of which some items are known -/
  | part (os : List (Option D))
  /-- an object of one's own: its class, its fields -/
  | ob (a : Addr) (c : Str) (ns : List Str) (ts : List Tr)
mutual
def Tr.strip : Tr → D
  | .leaf d => d
  | .lst _ ts => .lst (Tr.stripL ts)
  | .tup ts => .tup (Tr.stripL ts)
  | .hole _ => .non
  | .frz _ d => d
  | .part _ => .non
  | .ob _ c ns ts => .obj c ns (Tr.stripL ts)
def Tr.stripL : List Tr → List D
  | [] => []
  | t :: ts => t.strip :: Tr.stripL ts
end
mutual
/-- the addresses of its lists -/
def Tr.foot : Tr → List Addr
  | .leaf _ => []
  | .lst a ts => a :: Tr.footL ts
  | .tup ts => Tr.footL ts
  | .hole _ => []
  | .frz _ _ => []
  | .part _ => []
  | .ob a _ _ ts => a :: Tr.footL ts
def Tr.footL : List Tr → List Addr
  | [] => []
  | t :: ts => t.foot ++ Tr.footL ts
end
mutual
/-- v stands for the tree t: data and tuples in G, its lists in H -/
def TR (K : PySem.W.Frag) (G H : Hp) : Tr → V → Prop
  | .leaf d, v => Rp K G d v
  | .lst a ts, v => ∃ vs, v = .ref a ∧ H a = some (.lst vs) ∧ TRL K G H ts vs
  | .tup ts, v => ∃ a vs, v = .ref a ∧ SqT K G a vs ∧ TRL K G H ts vs
  | .hole _, _ => False
  | .frz a d, v => v = .ref a ∧ Rp K G d v
  | .part _, _ => False
  | .ob a c ns ts, v => ∃ C dx vs, PySem.W.nsIn K mainGlobals c = some (some (.ref C)) ∧ v = .ref a ∧ H a = some (.ins C dx (ns.zip vs)) ∧ G dx = some (.own a) ∧ ns.length = ts.length ∧ isX ns = false ∧ TRL K G H ts vs
def TRL (K : PySem.W.Frag) (G H : Hp) : List Tr → List V → Prop
  | [], vs => vs = []
  | t :: ts, vs => ∃ v r, vs = v :: r ∧ TR K G H t v ∧ TRL K G H ts r
end
section
variable {K : PySem.W.Frag} {G G' H H' : Hp}
theorem tr_leaf {d : D} {v : V} : TR K G H (.leaf d) v ↔ Rp K G d v := by unfold TR; rfl
theorem tr_lst {a : Addr} {ts : List Tr} {v : V} : TR K G H (.lst a ts) v ↔ ∃ vs, v = .ref a ∧ H a = some (.lst vs) ∧ TRL K G H ts vs := by conv => lhs; unfold TR
theorem tr_tup {ts : List Tr} {v : V} : TR K G H (.tup ts) v ↔ ∃ a vs, v = .ref a ∧ SqT K G a vs ∧ TRL K G H ts vs := by conv => lhs; unfold TR
theorem tr_ob {a : Addr} {c : Str} {ns : List Str} {ts : List Tr} {v : V} : TR K G H (.ob a c ns ts) v ↔ ∃ C dx vs, PySem.W.nsIn K mainGlobals c = some (some (.ref C)) ∧ v = .ref a ∧ H a = some (.ins C dx (ns.zip vs)) ∧ G dx = some (.own a) ∧ ns.length = ts.length ∧ isX ns = false ∧ TRL K G H ts vs := by conv => lhs; unfold TR
theorem tr_hole {a : Addr} {v : V} : ¬ TR K G H (.hole a) v := by unfold TR; exact id
theorem tr_frz {a : Addr} {d : D} {v : V} : TR K G H (.frz a d) v ↔ v = .ref a ∧ Rp K G d v := by unfold TR; rfl
theorem tr_part {os : List (Option D)} {v : V} : ¬ TR K G H (.part os) v := by unfold TR; exact id
theorem trl_nil {vs : List V} : TRL K G H [] vs ↔ vs = [] := by unfold TRL; rfl
theorem trl_cons {t : Tr} {ts : List Tr} {vs : List V} : TRL K G H (t :: ts) vs ↔ ∃ v r, vs = v :: r ∧ TR K G H t v ∧ TRL K G H ts r := by conv => lhs; unfold TRL
theorem foot_lst {a : Addr} {ts : List Tr} : (Tr.lst a ts).foot = a :: Tr.footL ts := by rw [Tr.foot]
theorem foot_tup {ts : List Tr} : (Tr.tup ts).foot = Tr.footL ts := by rw [Tr.foot]
theorem foot_leaf {d : D} : (Tr.leaf d).foot = [] := by rw [Tr.foot]
theorem foot_ob {a : Addr} {c : Str} {ns : List Str} {ts : List Tr} : (Tr.ob a c ns ts).foot = a :: Tr.footL ts := by rw [Tr.foot]
theorem foot_hole {a : Addr} : (Tr.hole a).foot = [] := by rw [Tr.foot]
theorem foot_frz {a : Addr} {d : D} : (Tr.frz a d).foot = [] := by rw [Tr.foot]
theorem foot_part {os : List (Option D)} : (Tr.part os).foot = [] := by rw [Tr.foot]
theorem footL_cons {t : Tr} {ts : List Tr} : Tr.footL (t :: ts) = t.foot ++ Tr.footL ts := by rw [Tr.footL]
theorem footL_nil : Tr.footL [] = [] := by rw [Tr.footL]
mutual
theorem TR.mono (e : Same G G') : ∀ {t : Tr} {v : V}, (∀ a ∈ t.foot, H' a = H a) → TR K G H t v → TR K G' H' t v
  | .leaf d, v, _, h => tr_leaf.mpr ((tr_leaf.mp h).mono e)
  | .lst a ts, v, hf, h => by
    obtain ⟨vs, h1, h2, h3⟩ := tr_lst.mp h
    rw [foot_lst] at hf
    exact tr_lst.mpr ⟨vs, h1, by rw [hf a (List.mem_cons_self ..)]; exact h2, TRL.mono e (fun b hb => hf b (List.mem_cons_of_mem _ hb)) h3⟩
  | .tup ts, v, hf, h => by
    obtain ⟨a, vs, h1, h2, h3⟩ := tr_tup.mp h
    rw [foot_tup] at hf
    exact tr_tup.mpr ⟨a, vs, h1, Same.seqT e h2, TRL.mono e hf h3⟩
  | .hole _, _, _, h => absurd h tr_hole
  | .part _, _, _, h => absurd h tr_part
  | .frz a d, v, _, h => tr_frz.mpr ⟨(tr_frz.mp h).1, (tr_frz.mp h).2.mono e⟩
  | .ob a c ns ts, v, hf, h => by
    obtain ⟨C, dx, vs, h0, h1, h2, h3, h4, h5, h6⟩ := tr_ob.mp h
    rw [foot_ob] at hf
    exact tr_ob.mpr ⟨C, dx, vs, h0, h1, by rw [hf a (List.mem_cons_self ..)]; exact h2, e _ _ h3, h4, h5, TRL.mono e (fun b hb => hf b (List.mem_cons_of_mem _ hb)) h6⟩
theorem TRL.mono (e : Same G G') : ∀ {ts : List Tr} {vs : List V}, (∀ a ∈ Tr.footL ts, H' a = H a) → TRL K G H ts vs → TRL K G' H' ts vs
  | [], vs, _, h => trl_nil.mpr (trl_nil.mp h)
  | t :: ts, vs, hf, h => by
    obtain ⟨v, r, h1, h2, h3⟩ := trl_cons.mp h
    rw [footL_cons] at hf
    exact trl_cons.mpr ⟨v, r, h1, TR.mono e (fun b hb => hf b (List.mem_append_left _ hb)) h2, TRL.mono e (fun b hb => hf b (List.mem_append_right _ hb)) h3⟩
end
mutual
theorem TR.ex : ∀ {t : Tr} {v : V} {a : Addr}, TR K G H t v → a ∈ t.foot → ∃ o, H a = some o
  | .leaf d, v, a, _, hf => by rw [foot_leaf] at hf; cases hf
  | .lst b ts, v, a, h, hf => by
    obtain ⟨vs, h1, h2, h3⟩ := tr_lst.mp h
    rw [foot_lst] at hf
    rcases List.mem_cons.mp hf with rfl | hf
    · exact ⟨_, h2⟩
    · exact TRL.ex h3 hf
  | .tup ts, v, a, h, hf => by
    obtain ⟨b, vs, h1, h2, h3⟩ := tr_tup.mp h
    rw [foot_tup] at hf
    exact TRL.ex h3 hf
  | .hole _, _, _, h, _ => absurd h tr_hole
  | .frz _ _, v, a, _, hf => by rw [foot_frz] at hf; cases hf
  | .part _, v, a, _, hf => by rw [foot_part] at hf; cases hf
  | .ob b c ns ts, v, a, h, hf => by
    obtain ⟨C, dx, vs, h0, h1, h2, h3, h4, h5, h6⟩ := tr_ob.mp h
    rw [foot_ob] at hf
    rcases List.mem_cons.mp hf with rfl | hf
    · exact ⟨_, h2⟩
    · exact TRL.ex h6 hf
theorem TRL.ex : ∀ {ts : List Tr} {vs : List V} {a : Addr}, TRL K G H ts vs → a ∈ Tr.footL ts → ∃ o, H a = some o
  | [], vs, a, _, hf => by rw [footL_nil] at hf; cases hf
  | t :: ts, vs, a, h, hf => by
    obtain ⟨v, r, h1, h2, h3⟩ := trl_cons.mp h
    rw [footL_cons] at hf
    rcases List.mem_append.mp hf with hf | hf
    · exact TR.ex h2 hf
    · exact TRL.ex h3 hf
end
mutual
/-- the tree as data, where its lists stand in G as in H -/
theorem TR.rp (s : Same G G') : ∀ {t : Tr} {v : V}, (∀ a ∈ t.foot, G' a = H a) → TR K G H t v → Rp K G' t.strip v
  | .leaf d, v, _, h => by rw [Tr.strip]; exact (tr_leaf.mp h).mono s
  | .lst a ts, v, hf, h => by
    obtain ⟨vs, h1, h2, h3⟩ := tr_lst.mp h
    rw [foot_lst] at hf
    rw [Tr.strip]
    exact rp_lst.mpr ⟨a, vs, h1, SqL.of (by rw [hf a (List.mem_cons_self ..)]; exact h2), TRL.rp s (fun b hb => hf b (List.mem_cons_of_mem _ hb)) h3⟩
  | .tup ts, v, hf, h => by
    obtain ⟨a, vs, h1, h2, h3⟩ := tr_tup.mp h
    rw [foot_tup] at hf
    rw [Tr.strip]
    exact rp_tup.mpr ⟨a, vs, h1, Same.seqT s h2, TRL.rp s hf h3⟩
  | .frz a d, v, _, h => by rw [Tr.strip]; exact (tr_frz.mp h).2.mono s
  | .part _, _, _, h => absurd h tr_part
  | .hole _, _, _, h => absurd h tr_hole
  | .ob a c ns ts, v, hf, h => by
    obtain ⟨C, dx, vs, h0, h1, h2, h3, h4, h5, h6⟩ := tr_ob.mp h
    rw [foot_ob] at hf
    rw [Tr.strip]
    have sl : ∀ us : List Tr, (Tr.stripL us).length = us.length := fun us => by
      induction us with
      | nil => rw [Tr.stripL]; rfl
      | cons u us ih => rw [Tr.stripL, List.length_cons, List.length_cons, ih]
    exact (rp_obj h5).mpr ⟨C, a, dx, vs, h0, h1, by rw [hf a (List.mem_cons_self ..)]; exact h2, s _ _ h3, by rw [sl]; exact h4, TRL.rp s (fun b hb => hf b (List.mem_cons_of_mem _ hb)) h6⟩
theorem TRL.rp (s : Same G G') : ∀ {ts : List Tr} {vs : List V}, (∀ a ∈ Tr.footL ts, G' a = H a) → TRL K G H ts vs → RpL K G' (Tr.stripL ts) vs
  | [], vs, _, h => by rw [Tr.stripL]; exact rpl_nil.mpr (trl_nil.mp h)
  | t :: ts, vs, hf, h => by
    obtain ⟨v, r, h1, h2, h3⟩ := trl_cons.mp h
    rw [footL_cons] at hf
    rw [Tr.stripL]
    exact rpl_cons.mpr ⟨v, r, h1, TR.rp s (fun b hb => hf b (List.mem_append_left _ hb)) h2, TRL.rp s (fun b hb => hf b (List.mem_append_right _ hb)) h3⟩
end
/-- a list with some known items -/
def PartR (K : PySem.W.Frag) (G : Hp) (os : List (Option D)) (v : V) : Prop := ∃ b vs, v = .ref b ∧ SqL K G b vs ∧ os.length = vs.length ∧ ∀ (k : Nat) (d : D) (w : V), os[k]? = some (some d) → vs[k]? = some w → Rp K G d w
/-- a slot's tree -/
def TRt (K : PySem.W.Frag) (G H : Hp) (t : Tr) (v : V) : Prop := match t with
  | .hole a => v = .ref a
  | .part os => PartR K G os v
  | t => TR K G H t v
/-- a tree in sight -/
def Tr.shut : Tr → Prop
  | .hole _ => False
  | .part _ => False
  | _ => True
@[simp] theorem shut_leaf {d : D} : (Tr.leaf d).shut = True := rfl
@[simp] theorem shut_lst {a : Addr} {ts : List Tr} : (Tr.lst a ts).shut = True := rfl
@[simp] theorem shut_tup {ts : List Tr} : (Tr.tup ts).shut = True := rfl
@[simp] theorem shut_ob {a : Addr} {c : Str} {ns : List Str} {ts : List Tr} : (Tr.ob a c ns ts).shut = True := rfl
@[simp] theorem shut_frz {a : Addr} {d : D} : (Tr.frz a d).shut = True := rfl
@[simp] theorem shut_part {os : List (Option D)} : (Tr.part os).shut = False := rfl
@[simp] theorem shut_hole {a : Addr} : (Tr.hole a).shut = False := rfl
theorem TRt.tr {t : Tr} {v : V} (h : TRt K G H t v) (s : t.shut) : TR K G H t v := by
  cases t with
  | hole a => exact s.elim
  | part os => exact s.elim
  | _ => exact h
theorem TRt.mono (e : Same G G') {t : Tr} {v : V} (hf : ∀ a ∈ t.foot, H' a = H a) (h : TRt K G H t v) : TRt K G' H' t v := by
  cases t with
  | hole a => exact h
  | part os =>
    obtain ⟨b, vs, h1, h2, h3, h4⟩ := h
    exact ⟨b, vs, h1, e.seq h2, h3, fun k d w q1 q2 => (h4 k d w q1 q2).mono e⟩
  | frz a d => exact TR.mono e hf h
  | leaf d => exact TR.mono e hf h
  | lst a ts => exact TR.mono e hf h
  | tup ts => exact TR.mono e hf h
  | ob a c ns ts => exact TR.mono e hf h
theorem TRt.ex {t : Tr} {v : V} {a : Addr} (h : TRt K G H t v) (ha : a ∈ t.foot) : ∃ o, H a = some o := by
  cases t with
  | hole b => rw [foot_hole] at ha; cases ha
  | frz b d => rw [foot_frz] at ha; cases ha
  | part os => rw [foot_part] at ha; cases ha
  | leaf d => exact TR.ex (t := .leaf d) h ha
  | lst b ts => exact TR.ex (t := .lst b ts) h ha
  | tup ts => exact TR.ex (t := .tup ts) h ha
  | ob b c ns ts => exact TR.ex (t := .ob b c ns ts) h ha
end
/-! ### growth of heaps -/
structure Grow (J H J' H' : Hp) : Prop where
  j : Same J J'
  jh : Same J' H'
  h : Same H H'
  n : ∀ a o, H a = some o → J a = none → J' a = none
theorem Grow.refl {J H : Hp} (s : Same J H) : Grow J H J H := ⟨Same.refl _, s, Same.refl _, fun _ _ _ h => h⟩
theorem Grow.trans {J H J1 H1 J2 H2 : Hp} (a : Grow J H J1 H1) (b : Grow J1 H1 J2 H2) : Grow J H J2 H2 :=
  ⟨a.j.trans b.j, b.jh, a.h.trans b.h, fun x o e n => b.n x o (a.h _ _ e) (a.n x o e n)⟩
theorem same_new {H : Hp} {p : Addr} {o : HO} (h : H p = none) : Same H (upd H p o) := fun b x e => by
  rw [upd_ne (ne_of_none e h)]
  exact e
theorem same_upd2 {J H : Hp} {p : Addr} {o : HO} (s : Same J H) : Same (upd J p o) (upd H p o) := fun b x e => by
  by_cases hb : b = p
  · rw [hb, upd_same] at e; rw [hb, upd_same]; exact e
  · rw [upd_ne hb] at e; rw [upd_ne hb]; exact s _ _ e
/-- a new object that never changes -/
theorem Grow.new {J H : Hp} {p : Addr} {o : HO} (s : Same J H) (h : H p = none) : Grow J H (upd J p o) (upd H p o) :=
  ⟨same_new (s.free h), same_upd2 s, same_new h, fun a x e n => by rw [upd_ne (ne_of_none e h)]; exact n⟩
/-! ### abstract states -/
inductive Sv where
  | un | dat (d : D) | own (io : Bool) (xs : List D)
  /-- as a result only: a tuple of a list of its own and data -/
  | pr (xs : List D) (d : D)
  | tre (t : Tr)
/-- an exception: its class by name, its field -/
structure Exc where
  c : Str
  fld : Option (Str × D)
def ExcIs (K : PySem.W.Frag) (G _H : Hp) (x : Exc) (cls : Value) (d : Option Addr) : Prop :=
  (∃ C, PySem.W.nsIn K mainGlobals x.c = some (some (.ref C)) ∧ cls = .ref C) ∧ match x.fld with
    | none => d = none
    | some (f, y) => ∃ dx v, d = some dx ∧ G dx = some (.xd [(f, v)]) ∧ Rp K G y v
/-- the trees of the slots -/
structure TrOk (K : PySem.W.Frag) (G F : Hp) (ρ : List Sv) (σ : St) (H : Hp) : Prop where
  got : ∀ (i : Nat) (t : Tr), ρ[i]? = some (.tre t) → ∃ v, σ[i]? = some (some v) ∧ TRt K G H t v ∧ t.foot.Nodup ∧ ∀ a ∈ t.foot, G a = none ∧ F a = none
  own : ∀ (i : Nat) (t : Tr) (j : Nat) (c : Bool) (ys : List D) (a : Addr), ρ[i]? = some (.tre t) → ρ[j]? = some (.own c ys) → σ[j]? = some (some (.ref a)) → a ∉ t.foot
  ne : ∀ (i : Nat) (t : Tr) (j : Nat) (u : Tr), ρ[i]? = some (.tre t) → ρ[j]? = some (.tre u) → i ≠ j → ∀ a ∈ t.foot, a ∉ u.foot
/-- a is no slot's list -/
structure NoS (ρ : List Sv) (σ : St) (a : Addr) : Prop where
  own : ∀ (i : Nat) (b : Bool) (ys : List D), ρ[i]? = some (.own b ys) → σ[i]? ≠ some (some (.ref a))
  tre : ∀ (i : Nat) (t : Tr), ρ[i]? = some (.tre t) → a ∉ t.foot
/-- trees stay where heaps grow and slots change that hold none -/
theorem TrOk.step {K : PySem.W.Frag} {G G' F F' : Hp} {ρ ρ' : List Sv} {σ σ' : St} {H H' : Hp} (T : TrOk K G F ρ σ H) (hρ : ∀ (i : Nat) (t : Tr), ρ'[i]? = some (.tre t) → ρ[i]? = some (.tre t) ∧ σ'[i]? = σ[i]?)
    (hG : Same G G') (hH : ∀ (i : Nat) (t : Tr) (a : Addr), ρ'[i]? = some (.tre t) → a ∈ t.foot → H' a = H a ∧ G' a = none ∧ F' a = none)
    (ho : ∀ (j : Nat) (c : Bool) (ys : List D) (a : Addr) (i : Nat) (t : Tr), ρ'[j]? = some (.own c ys) → σ'[j]? = some (some (.ref a)) → ρ'[i]? = some (.tre t) → a ∉ t.foot) : TrOk K G' F' ρ' σ' H' := by
  refine ⟨fun i t e => ?_, fun i t j c ys a e1 e2 e3 => ho j c ys a i t e2 e3 e1, fun i t j u e1 e2 => T.ne i t j u (hρ i t e1).1 (hρ j u e2).1⟩
  obtain ⟨e1, e2⟩ := hρ i t e
  obtain ⟨v, h1, h2, h3, h4⟩ := T.got i t e1
  exact ⟨v, by rw [e2]; exact h1, TRt.mono hG (fun a ha => (hH i t a e ha).1) h2, h3, fun a ha => (hH i t a e ha).2⟩
/-- .. where no slot changes -/
theorem TrOk.same {K : PySem.W.Frag} {G G' F F' : Hp} {ρ : List Sv} {σ : St} {H H' : Hp} (T : TrOk K G F ρ σ H) (hG : Same G G') (hH : ∀ (i : Nat) (t : Tr) (a : Addr), ρ[i]? = some (.tre t) → a ∈ t.foot → H' a = H a ∧ G' a = none ∧ F' a = none) : TrOk K G' F' ρ σ H' :=
  T.step (fun _ _ e => ⟨e, rfl⟩) hG hH fun j c ys a i t e1 e2 e3 => T.own i t j c ys a e3 e1 e2
theorem TrOk.ex {K : PySem.W.Frag} {G F : Hp} {ρ : List Sv} {σ : St} {H : Hp} (T : TrOk K G F ρ σ H) {i : Nat} {t : Tr} {a : Addr} (e : ρ[i]? = some (.tre t)) (ha : a ∈ t.foot) : (∃ o, H a = some o) ∧ G a = none ∧ F a = none := by
  obtain ⟨v, h1, h2, h3, h4⟩ := T.got i t e
  exact ⟨h2.ex ha, h4 a ha⟩
structure Rel (K : PySem.W.Frag) (P : List (Nat × Addr)) (G F : Hp) (ρ : List Sv) (σ : St) (H : Hp) : Prop where
  len : ρ.length = σ.length
  sg : Same G H
  sf : Same F H
  gf : ∀ a o, F a = some o → G a = none
  dat : ∀ (i : Nat) (d : D), ρ[i]? = some (.dat d) → ∃ v, σ[i]? = some (some v) ∧ Rp K G d v
  own : ∀ (i : Nat) (b : Bool) (xs : List D), ρ[i]? = some (.own b xs) → ∃ a vs, σ[i]? = some (some (.ref a)) ∧ H a = some (.lst vs) ∧ G a = none ∧ F a = none ∧ RpL K G xs vs
  ne : ∀ (i j : Nat) (a : Addr) (b : Bool) (xs : List D) (c : Bool) (ys : List D), ρ[i]? = some (.own b xs) → ρ[j]? = some (.own c ys) → σ[i]? = some (some (.ref a)) → σ[j]? = some (some (.ref a)) → i = j
  pin : ∀ p ∈ P, σ[p.1]? = some (some (.ref p.2)) ∧ ∃ xs, ρ[p.1]? = some (.own true xs)
  pinc : ∀ (i : Nat) (xs : List D), ρ[i]? = some (.own true xs) → ∃ a, (i, a) ∈ P
  tr : TrOk K G F ρ σ H
section
variable {K : PySem.W.Frag} {P : List (Nat × Addr)} {G F G' : Hp} {ρ : List Sv} {σ : St} {H H' : Hp}
theorem Rel.grow (R : Rel K P G F ρ σ H) (g : Grow G H G' H') : Rel K P G' F ρ σ H' where
  len := R.len
  sg := g.jh
  sf := R.sf.trans g.h
  gf := fun a o e => g.n a o (R.sf _ _ e) (R.gf a o e)
  dat := fun i d e => by
    obtain ⟨v, h1, h2⟩ := R.dat i d e
    exact ⟨v, h1, h2.mono g.j⟩
  own := fun i b xs e => by
    obtain ⟨a, vs, h1, h2, h3, h4, h5⟩ := R.own i b xs e
    exact ⟨a, vs, h1, g.h _ _ h2, g.n _ _ h2 h3, h4, h5.mono g.j⟩
  ne := R.ne
  pin := R.pin
  pinc := R.pinc
  tr := R.tr.same g.j fun i t a e ha => by
    obtain ⟨⟨ov, h1⟩, h2, h3⟩ := R.tr.ex e ha
    exact ⟨by rw [h1]; exact g.h _ _ h1, g.n _ _ h1 h2, h3⟩
/-- a new own cell that stands in no slot: the heap grows -/
theorem Rel.alloc (R : Rel K P G F ρ σ H) {p : Addr} {o : HO} (h : H p = none) : Rel K P G F ρ σ (upd H p o) where
  len := R.len
  sg := R.sg.trans (same_new h)
  sf := R.sf.trans (same_new h)
  gf := R.gf
  dat := R.dat
  own := fun i b xs e => by
    obtain ⟨a, vs, h1, h2, h3, h4, h5⟩ := R.own i b xs e
    exact ⟨a, vs, h1, same_new h _ _ h2, h3, h4, h5⟩
  ne := R.ne
  pin := R.pin
  pinc := R.pinc
  tr := R.tr.same (Same.refl _) fun i t a e ha => by
    obtain ⟨⟨ov, h1⟩, h2, h3⟩ := R.tr.ex e ha
    exact ⟨by rw [h1]; exact same_new h _ _ h1, h2, h3⟩
end
/-! ### judgements -/
abbrev KD := D → List Sv → Prop
abbrev KX := Exc → List Sv → Prop
abbrev AE := List Sv → KD → KX → Prop
abbrev AV := List Sv → (D → Prop) → Prop
abbrev AO := List Sv → (List D → List Sv → Prop) → KX → Prop
abbrev AT := List Sv → (Bool → List Sv → Prop) → KX → Prop
/-- what is wanted of exceptions -/
def XIn (X : Cx) (W : WX) (P : List (Nat × Addr)) (G F : Hp) (σ : St) (Z : KX) : Prop :=
  ∀ G' ρ' H' x cls d, Rel X.K P G' F ρ' σ H' → Same G G' → ExcIs X.K G' H' x cls d → Z x ρ' → W cls d σ H'
theorem XIn.mono {X : Cx} {W : WX} {P : List (Nat × Addr)} {G F G1 : Hp} {σ : St} {Z : KX} (h : XIn X W P G F σ Z) (e : Same G G1) : XIn X W P G1 F σ Z :=
  fun G' ρ' H' x cls d R s E z => h G' ρ' H' x cls d R (e.trans s) E z
/-- an expression gives data that stays -/
structure EX (X : Cx) (W : WX) (e : Expr) (t : AE) : Prop where
  ex : ∃ T : TE, PE X e T ∧ ∀ P G F ρ σ H (Q : KD) (Z : KX) (Q' : VK), Rel X.K P G F ρ σ H → t ρ Q Z → XIn X W P G F σ Z →
    (∀ G' ρ' H' v d, Rel X.K P G' F ρ' σ H' → Same G G' → Rp X.K G' d v → Q d ρ' → Q' v H') → T σ H Q'
/-- an expression that only reads; its value may be an own list as it stands -/
structure VW (X : Cx) (e : Expr) (t : AV) : Prop where
  ex : ∃ T : TE, PE X e T ∧ ∀ P G F ρ σ H (Q : D → Prop) (Q' : VK), Rel X.K P G F ρ σ H → t ρ Q →
    (∀ G' H' v d, Rel X.K P G' F ρ σ H' → Same G G' → Same H H' → Rp X.K H' d v → Q d → Q' v H') → T σ H Q'
/-- an expression that gives a list of its own -/
structure EO (X : Cx) (W : WX) (e : Expr) (t : AO) : Prop where
  ex : ∃ T : TE, PE X e T ∧ ∀ P G F ρ σ H (Q : List D → List Sv → Prop) (Z : KX) (Q' : VK), Rel X.K P G F ρ σ H → t ρ Q Z → XIn X W P G F σ Z →
    (∀ G' ρ' H' a vs xs, Rel X.K P G' F ρ' σ H' → Same G G' → H' a = some (.lst vs) → G' a = none → F a = none → NoS ρ' σ a → RpL X.K G' xs vs → Q xs ρ' → Q' (.ref a) H') → T σ H Q'
/-- a test -/
structure TX (X : Cx) (W : WX) (e : Expr) (t : AT) : Prop where
  ex : ∃ T : TT, PT X e T ∧ ∀ P G F ρ σ H (Q : Bool → List Sv → Prop) (Z : KX) (Q' : Bool → Hp → Prop), Rel X.K P G F ρ σ H → t ρ Q Z → XIn X W P G F σ Z →
    (∀ G' ρ' H' b, Rel X.K P G' F ρ' σ H' → Same G G' → Q b ρ' → Q' b H') → T σ H Q'
/-- a test within and, or -/
structure TWX (X : Cx) (W : WX) (e : Expr) (t : AT) : Prop where
  ex : ∃ T : TT, PW X e T ∧ ∀ P G F ρ σ H (Q : Bool → List Sv → Prop) (Z : KX) (Q' : Bool → Hp → Prop), Rel X.K P G F ρ σ H → t ρ Q Z → XIn X W P G F σ Z →
    (∀ G' ρ' H' b, Rel X.K P G' F ρ' σ H' → Same G G' → Q b ρ' → Q' b H') → T σ H Q'
structure AEnds where
  nx : List Sv → Prop
  rt : Sv → List Sv → Prop
  bk : List Sv → Prop := fun _ => False
  ct : List Sv → Prop := fun _ => False
  xx : KX := fun _ _ => False
abbrev AS := AEnds → List Sv → Prop
/-- a result -/
def Rr (K : PySem.W.Frag) (P : List (Nat × Addr)) (G F : Hp) (r : Sv) (v : V) (H : Hp) : Prop := match r with
  | .un => False
  | .tre _ => False
  | .dat d => Rp K G d v
  | .own _ xs => ∃ a vs, v = .ref a ∧ H a = some (.lst vs) ∧ G a = none ∧ F a = none ∧ (∀ p ∈ P, p.2 ≠ a) ∧ RpL K G xs vs
  | .pr xs d => ∃ t a vs u, v = .ref t ∧ H t = some (.tup [.ref a, u]) ∧ H a = some (.lst vs) ∧ G a = none ∧ F a = none ∧ (∀ p ∈ P, p.2 ≠ a) ∧ RpL K G xs vs ∧ Rp K G d u
structure EndsOk (X : Cx) (W : WX) (P : List (Nat × Addr)) (G F : Hp) (D : AEnds) (D' : Ends) : Prop where
  nx : ∀ G' ρ' σ' H', Rel X.K P G' F ρ' σ' H' → Same G G' → D.nx ρ' → D'.nx σ' H'
  rt : ∀ G' ρ' σ' H' r v, Rel X.K P G' F ρ' σ' H' → Same G G' → Rr X.K P G' F r v H' → D.rt r ρ' → D'.rt v H'
  bk : ∀ G' ρ' σ' H', Rel X.K P G' F ρ' σ' H' → Same G G' → D.bk ρ' → D'.bk σ' H'
  ct : ∀ G' ρ' σ' H', Rel X.K P G' F ρ' σ' H' → Same G G' → D.ct ρ' → D'.ct σ' H'
  xx : ∀ σ', XIn X W P G F σ' D.xx
theorem EndsOk.mono {X : Cx} {W : WX} {P : List (Nat × Addr)} {G F G1 : Hp} {D : AEnds} {D' : Ends} (h : EndsOk X W P G F D D') (e : Same G G1) : EndsOk X W P G1 F D D' :=
  ⟨fun G' ρ' σ' H' R s => h.nx G' ρ' σ' H' R (e.trans s), fun G' ρ' σ' H' r v R s => h.rt G' ρ' σ' H' r v R (e.trans s), fun G' ρ' σ' H' R s => h.bk G' ρ' σ' H' R (e.trans s), fun G' ρ' σ' H' R s => h.ct G' ρ' σ' H' R (e.trans s), fun σ' => (h.xx σ').mono e⟩
structure SX (X : Cx) (W : WX) (st : Stmt) (t : AS) : Prop where
  ex : ∃ T : TS, PS X st T ∧ ∀ P G F ρ σ H (D : AEnds) (D' : Ends), Rel X.K P G F ρ σ H → t D ρ → EndsOk X W P G F D D' → T D' σ H
structure SXs (X : Cx) (W : WX) (st : List Stmt) (t : AS) : Prop where
  ex : ∃ T : TS, PSs X st T ∧ ∀ P G F ρ σ H (D : AEnds) (D' : Ends), Rel X.K P G F ρ σ H → t D ρ → EndsOk X W P G F D D' → T D' σ H
/-! ### names and constants -/
def aVar (i : Nat) : AE := fun ρ Q _ => match ρ[i]? with
  | some (.dat d) => Q d ρ
  | some (.own false xs) => Q (.lst xs) (ρ.set i (.dat (.lst xs)))
  | some (.tre (.frz _ d)) => Q d ρ
  | some (.tre t) => t.shut ∧ Q t.strip (ρ.set i (.dat t.strip))
  | _ => False
def aC (d : D) : AE := fun ρ Q _ => Q d ρ
def vVar (i : Nat) : AV := fun ρ Q => match ρ[i]? with
  | some (.dat d) => Q d
  | some (.own _ xs) => Q (.lst xs)
  | some (.tre t) => t.shut ∧ Q t.strip
  | _ => False
def vC (d : D) : AV := fun _ Q => Q d
section
variable {K : PySem.W.Frag} {P : List (Nat × Addr)} {G F G' : Hp} {ρ : List Sv} {σ : St} {H H' : Hp}
theorem get_set {α : Type} {l : List α} {i j : Nat} {x y : α} (h : (l.set i x)[j]? = some y) : (j = i ∧ y = x) ∨ (j ≠ i ∧ l[j]? = some y) := by
  rw [List.getElem?_set] at h
  by_cases e : i = j
  · subst e
    rw [if_pos rfl] at h
    split at h
    · exact .inl ⟨rfl, (Option.some.inj h).symm⟩
    · cases h
  · rw [if_neg e] at h
    exact .inr ⟨fun z => e z.symm, h⟩
/-- an own list of a slot is from now on data -/
theorem Rel.freeze (R : Rel K P G F ρ σ H) {i : Nat} {xs : List D} (e : ρ[i]? = some (.own false xs)) :
    ∃ a G', σ[i]? = some (some (.ref a)) ∧ Rel K P G' F (ρ.set i (.dat (.lst xs))) σ H ∧ Same G G' ∧ Rp K G' (.lst xs) (.ref a) := by
  obtain ⟨a, vs, h1, h2, h3, h4, h5⟩ := R.own i false xs e
  have sG : Same G (upd G a (.lst vs)) := same_new h3
  have rp : Rp K (upd G a (.lst vs)) (.lst xs) (.ref a) := rp_lst.mpr ⟨a, vs, rfl, SqL.of upd_same, h5.mono sG⟩
  refine ⟨a, upd G a (.lst vs), h1, ⟨by rw [List.length_set]; exact R.len, fun b o q => ?_, R.sf, fun b o q => ?_, fun j d q => ?_, fun j b ys q => ?_, fun j k c b ys b' zs q1 q2 => ?_, fun p hp => ?_, fun j ys q => ?_, R.tr.step (fun j t q => ?_) sG (fun j t b q hb => ?_) (fun j c ys b k t q1 q2 q3 => ?_)⟩, sG, rp⟩
  · by_cases hb : b = a
    · rw [hb, upd_same] at q; rw [hb, h2]; exact q
    · rw [upd_ne hb] at q; exact R.sg _ _ q
  · rw [upd_ne (ne_of_none q h4)]; exact R.gf b o q
  · rcases get_set q with ⟨rfl, z⟩ | ⟨_, q⟩
    · cases z; exact ⟨_, h1, rp⟩
    · obtain ⟨v, g1, g2⟩ := R.dat j d q
      exact ⟨v, g1, g2.mono sG⟩
  · rcases get_set q with ⟨rfl, z⟩ | ⟨hj, q⟩
    · cases z
    · obtain ⟨c, us, g1, g2, g3, g4, g5⟩ := R.own j b ys q
      refine ⟨c, us, g1, g2, ?_, g4, g5.mono sG⟩
      rw [upd_ne fun z => ?_]
      · exact g3
      · subst z
        exact hj (R.ne j i c b ys false xs q e g1 h1)
  · rcases get_set q1 with ⟨_, z⟩ | ⟨_, q1⟩
    · cases z
    rcases get_set q2 with ⟨_, z⟩ | ⟨_, q2⟩
    · cases z
    exact R.ne j k c b ys b' zs q1 q2
  · obtain ⟨g1, zs, g2⟩ := R.pin p hp
    refine ⟨g1, zs, ?_⟩
    rw [List.getElem?_set_ne]
    · exact g2
    · intro z
      rw [← z, e] at g2
      cases g2
  · rcases get_set q with ⟨_, z⟩ | ⟨_, q⟩
    · cases z
    · exact R.pinc j ys q
  · rcases get_set q with ⟨_, z⟩ | ⟨_, q⟩
    · cases z
    · exact ⟨q, rfl⟩
  · rcases get_set q with ⟨_, z⟩ | ⟨_, q⟩
    · cases z
    obtain ⟨_, g2, g3⟩ := R.tr.ex q hb
    exact ⟨rfl, by rw [upd_ne fun z => R.tr.own j t i false xs a q e h1 (by rw [← z]; exact hb)]; exact g2, g3⟩
  · rcases get_set q1 with ⟨_, z⟩ | ⟨_, q1⟩
    · cases z
    rcases get_set q3 with ⟨_, z⟩ | ⟨_, q3⟩
    · cases z
    exact R.tr.own k t j c ys b q3 q1 q2
open Classical in
/-- a tree of a slot is from now on data -/
theorem Rel.freezeT (R : Rel K P G F ρ σ H) {i : Nat} {t : Tr} (e : ρ[i]? = some (.tre t)) (hs : t.shut) :
    ∃ v G', σ[i]? = some (some v) ∧ Rel K P G' F (ρ.set i (.dat t.strip)) σ H ∧ Same G G' ∧ Rp K G' t.strip v := by
  obtain ⟨v, h1, h2, h3, h4⟩ := R.tr.got i t e
  let G' : Hp := fun a => if a ∈ t.foot then H a else G a
  have yes : ∀ {a}, a ∈ t.foot → G' a = H a := fun ha => if_pos ha
  have no : ∀ {a}, a ∉ t.foot → G' a = G a := fun ha => if_neg ha
  have sG : Same G G' := fun b o q => by rw [no fun hb => by rw [(h4 b hb).1] at q; cases q]; exact q
  have rp : Rp K G' t.strip v := (h2.tr hs).rp sG fun a ha => yes ha
  refine ⟨v, G', h1, ⟨by rw [List.length_set]; exact R.len, fun b o q => ?_, R.sf, fun b o q => ?_, fun j d q => ?_, fun j b ys q => ?_, fun j k c b ys b' zs q1 q2 => ?_, fun p hp => ?_, fun j ys q => ?_, R.tr.step (fun j u q => ?_) sG (fun j u b q hb => ?_) (fun j c ys b k u q1 q2 q3 => ?_)⟩, sG, rp⟩
  · by_cases hb : b ∈ t.foot
    · rw [yes hb] at q; exact q
    · rw [no hb] at q; exact R.sg _ _ q
  · rw [no fun hb => by rw [(h4 b hb).2] at q; cases q]; exact R.gf b o q
  · rcases get_set q with ⟨rfl, z⟩ | ⟨_, q⟩
    · cases z; exact ⟨_, h1, rp⟩
    · obtain ⟨v, g1, g2⟩ := R.dat j d q
      exact ⟨v, g1, g2.mono sG⟩
  · rcases get_set q with ⟨rfl, z⟩ | ⟨hj, q⟩
    · cases z
    · obtain ⟨c, us, g1, g2, g3, g4, g5⟩ := R.own j b ys q
      exact ⟨c, us, g1, g2, by rw [no (R.tr.own i t j b ys c e q g1)]; exact g3, g4, g5.mono sG⟩
  · rcases get_set q1 with ⟨_, z⟩ | ⟨_, q1⟩
    · cases z
    rcases get_set q2 with ⟨_, z⟩ | ⟨_, q2⟩
    · cases z
    exact R.ne j k c b ys b' zs q1 q2
  · obtain ⟨g1, zs, g2⟩ := R.pin p hp
    refine ⟨g1, zs, ?_⟩
    rw [List.getElem?_set_ne]
    · exact g2
    · intro z
      rw [← z, e] at g2
      cases g2
  · rcases get_set q with ⟨_, z⟩ | ⟨_, q⟩
    · cases z
    · exact R.pinc j ys q
  · rcases get_set q with ⟨_, z⟩ | ⟨_, q⟩
    · cases z
    · exact ⟨q, rfl⟩
  · rcases get_set q with ⟨_, z⟩ | ⟨hj, q⟩
    · cases z
    obtain ⟨_, g2, g3⟩ := R.tr.ex q hb
    exact ⟨rfl, by rw [no (R.tr.ne j u i t q e hj b hb)]; exact g2, g3⟩
  · rcases get_set q1 with ⟨_, z⟩ | ⟨_, q1⟩
    · cases z
    rcases get_set q3 with ⟨_, z⟩ | ⟨_, q3⟩
    · cases z
    exact R.tr.own k u j c ys b q3 q1 q2
end
section
variable {X : Cx} {W : WX} {pos : Pos}
theorem ev (i : Nat) {x : Str} (hN : X.N[i]? = some x := by rfl) (hv : Vis X.env.scope x := by first | exact Or.inl rfl | exact Or.inr (Or.inl rfl) | exact Or.inr (Or.inr rfl)) (hd : (x == ("__debug__" : Str)) = false := by decide)
    (hcd : (x == ("__classdict__" : Str)) = false := by decide) : EX X W (.Name x pos) (aVar i) := by
  refine ⟨_, pe_var hN hv hd hcd, fun P G F ρ σ H Q Z Q' R h _ hq => ?_⟩
  unfold aVar at h
  cases e : ρ[i]? with
  | none => rw [e] at h; exact h.elim
  | some s =>
    rw [e] at h
    cases s with
    | un => exact h.elim
    | pr _ _ => exact h.elim
    | tre t =>
      have gen : t.shut → Q t.strip (ρ.set i (.dat t.strip)) → ∃ v, σ[i]? = some (some v) ∧ Q' v H := fun h1 h2 => by
        obtain ⟨v, G', h3, R', sG, rp⟩ := R.freezeT e h1
        exact ⟨_, h3, hq G' _ H _ _ R' sG rp h2⟩
      cases t with
      | frz a d =>
        obtain ⟨v, h1, h2, _, _⟩ := R.tr.got i _ e
        exact ⟨v, h1, hq G ρ H v d R (Same.refl _) (tr_frz.mp (TRt.tr h2 (by trivial))).2 h⟩
      | leaf d => exact gen h.1 h.2
      | lst a ts => exact gen h.1 h.2
      | tup ts => exact gen h.1 h.2
      | hole a => exact gen h.1 h.2
      | part os => exact gen h.1 h.2
      | ob a c ns ts => exact gen h.1 h.2
    | dat d =>
      obtain ⟨v, h1, h2⟩ := R.dat i d e
      exact ⟨v, h1, hq G ρ H v d R (Same.refl _) h2 h⟩
    | own b xs =>
      cases b with
      | true => exact h.elim
      | false =>
        obtain ⟨a, G', h1, R', sG, rp⟩ := R.freeze e
        exact ⟨_, h1, hq G' _ H _ _ R' sG rp h⟩
theorem vv (i : Nat) {x : Str} (hN : X.N[i]? = some x := by rfl) (hv : Vis X.env.scope x := by first | exact Or.inl rfl | exact Or.inr (Or.inl rfl) | exact Or.inr (Or.inr rfl)) (hd : (x == ("__debug__" : Str)) = false := by decide)
    (hcd : (x == ("__classdict__" : Str)) = false := by decide) : VW X (.Name x pos) (vVar i) := by
  refine ⟨_, pe_var hN hv hd hcd, fun P G F ρ σ H Q Q' R h hq => ?_⟩
  unfold vVar at h
  cases e : ρ[i]? with
  | none => rw [e] at h; exact h.elim
  | some s =>
    rw [e] at h
    cases s with
    | un => exact h.elim
    | pr _ _ => exact h.elim
    | tre t =>
      obtain ⟨v, h1, h2, _, _⟩ := R.tr.got i t e
      exact ⟨v, h1, hq G H v _ R (Same.refl _) (Same.refl _) ((h2.tr h.1).rp R.sg fun _ _ => rfl) h.2⟩
    | dat d =>
      obtain ⟨v, h1, h2⟩ := R.dat i d e
      exact ⟨v, h1, hq G H v d R (Same.refl _) (Same.refl _) (h2.mono R.sg) h⟩
    | own b xs =>
      obtain ⟨a, vs, h1, h2, h3, h4, h5⟩ := R.own i b xs e
      exact ⟨_, h1, hq G H _ _ R (Same.refl _) (Same.refl _) (rp_lst.mpr ⟨a, vs, rfl, SqL.of h2, h5.mono R.sg⟩) h⟩
theorem e_C {e : Expr} {v : V} {d : D} (h : PE X e (tC v)) (r : ∀ G, Rp X.K G d v) : EX X W e (aC d) :=
  ⟨_, h, fun P G F ρ σ H Q Z Q' R h _ hq => hq G ρ H _ _ R (Same.refl _) (r G) h⟩
theorem v_C {e : Expr} {v : V} {d : D} (h : PE X e (tC v)) (r : ∀ G, Rp X.K G d v) : VW X e (vC d) :=
  ⟨_, h, fun P G F ρ σ H Q Q' R h hq => hq G H _ _ R (Same.refl _) (Same.refl _) (r H) h⟩
theorem e_int {i j} : EX X W (.Constant (.int i) j pos) (aC (.int i)) := e_C pe_int fun _ => rp_int.mpr rfl
theorem e_bl {b j} : EX X W (.Constant (.bool b) j pos) (aC (.bl b)) := e_C pe_bl fun _ => rp_bl.mpr rfl
theorem e_non {j} : EX X W (.Constant .none j pos) (aC .non) := e_C pe_non fun _ => rp_non.mpr rfl
theorem e_str {x j} : EX X W (.Constant (.str x) j pos) (aC (.str x)) := e_C pe_str fun _ => rp_str.mpr rfl
theorem v_int {i j} : VW X (.Constant (.int i) j pos) (vC (.int i)) := v_C pe_int fun _ => rp_int.mpr rfl
theorem v_non {j} : VW X (.Constant .none j pos) (vC .non) := v_C pe_non fun _ => rp_non.mpr rfl
theorem v_str {x j} : VW X (.Constant (.str x) j pos) (vC (.str x)) := v_C pe_str fun _ => rp_str.mpr rfl
end
end VS
/-! VSb: expressions. -/
namespace VS
open PySem PySem.Spec PyProof.Rows L2
/-! ### operations on data -/
def B2 (K : PySem.W.Frag) (r : R2) (b : D → D → (D → Prop) → Prop) : Prop :=
  ∀ (J H : Hp) (d e : D) (v u : V) (Q : D → Prop) (Q' : VK), Same J H → Rp K J d v → Rp K J e u → b d e Q → (∀ J' H' z w, Grow J H J' H' → Rp K J' z w → Q z → Q' w H') → r v u H Q'
def B1 (K : PySem.W.Frag) (r : V → Hp → VK → Prop) (b : D → (D → Prop) → Prop) : Prop :=
  ∀ (J H : Hp) (d : D) (v : V) (Q : D → Prop) (Q' : VK), Same J H → Rp K J d v → b d Q → (∀ J' H' z w, Grow J H J' H' → Rp K J' z w → Q z → Q' w H') → r v H Q'
def BN (K : PySem.W.Frag) (r : List V → Hp → VK → Prop) (b : List D → (D → Prop) → Prop) : Prop :=
  ∀ (J H : Hp) (ds : List D) (vs : List V) (Q : D → Prop) (Q' : VK), Same J H → RpL K J ds vs → b ds Q → (∀ J' H' z w, Grow J H J' H' → Rp K J' z w → Q z → Q' w H') → r vs H Q'
theorem OpR.or {X : Cx} {f : Value → Value → Sem Value} {r r' : R2} (h : OpR X f r) (h' : OpR X f r') : OpR X f (fun x y H Q => r x y H Q ∨ r' x y H Q) := by
  intro pins s σ H x y v u Q I rx ry q
  rcases q with q | q
  · exact h pins s σ H x y v u Q I rx ry q
  · exact h' pins s σ H x y v u Q I rx ry q
def aOp (b : D → D → (D → Prop) → Prop) (ta tb : AE) : AE := fun ρ Q Z => ta ρ (fun x ρ1 => tb ρ1 (fun y ρ2 => b x y fun z => Q z ρ2) Z) Z
def vOp (b : D → D → (D → Prop) → Prop) (ta tb : AV) : AV := fun ρ Q => ta ρ fun x => tb ρ fun y => b x y Q
def aUn (b : D → (D → Prop) → Prop) (ta : AE) : AE := fun ρ Q Z => ta ρ (fun x ρ1 => b x fun z => Q z ρ1) Z
def vUn (b : D → (D → Prop) → Prop) (ta : AV) : AV := fun ρ Q => ta ρ fun x => b x Q
section
variable {K : PySem.W.Frag} {P : List (Nat × Addr)} {G F G' : Hp} {ρ : List Sv} {σ : St} {H H' : Hp}
/-- the heap grows and the data too, by what stood in all of the heap -/
theorem Rel.growV (R : Rel K P G F ρ σ H) {J' : Hp} (g : Grow H H J' H') : Rel K P G F ρ σ H' :=
  R.grow ⟨Same.refl _, R.sg.trans g.h, g.h, fun _ _ _ h => h⟩
end
section
variable {X : Cx} {W : WX} {pos : Pos} {a b : Expr} {ta tb : AE} {va vb : AV}
theorem e_op {op : Operator} {r : R2} {β : D → D → (D → Prop) → Prop} (ho : OpR X (binaryOp op) r) (hb : B2 X.K r β) (ea : EX X W a ta) (eb : EX X W b tb) : EX X W (.BinOp a op b pos) (aOp β ta tb) := by
  obtain ⟨Ta, pa, ra⟩ := ea.ex
  obtain ⟨Tb, pb, rb⟩ := eb.ex
  refine ⟨_, pe_op ho pa pb, fun P G F ρ σ H Q Z Q' R h hz hq => ?_⟩
  refine ra P G F ρ σ H _ Z _ R h hz fun G1 ρ1 H1 v d R1 s1 rv h1 => ?_
  refine rb P G1 F ρ1 σ H1 _ Z _ R1 h1 (hz.mono s1) fun G2 ρ2 H2 u e R2 s2 ru h2 => ?_
  exact hb G2 H2 d e v u _ Q' R2.sg (rv.mono s2) ru h2 fun J' H' z w g rz q => hq J' ρ2 H' w z (R2.grow g) ((s1.trans s2).trans g.j) rz q
theorem v_op {op : Operator} {r : R2} {β : D → D → (D → Prop) → Prop} (ho : OpR X (binaryOp op) r) (hb : B2 X.K r β) (ea : VW X a va) (eb : VW X b vb) : VW X (.BinOp a op b pos) (vOp β va vb) := by
  obtain ⟨Ta, pa, ra⟩ := ea.ex
  obtain ⟨Tb, pb, rb⟩ := eb.ex
  refine ⟨_, pe_op ho pa pb, fun P G F ρ σ H Q Q' R h hq => ?_⟩
  refine ra P G F ρ σ H _ _ R h fun G1 H1 v d R1 s1 k1 rv h1 => ?_
  refine rb P G1 F ρ σ H1 _ _ R1 h1 fun G2 H2 u e R2 s2 k2 ru h2 => ?_
  exact hb H2 H2 d e v u _ Q' (Same.refl _) (rv.mono k2) ru h2 fun J' H' z w g rz q => hq G2 H' w z (R2.growV g) (s1.trans s2) ((k1.trans k2).trans g.h) (rz.mono g.jh) q
theorem e_cmp {op : CmpOp} {r : R2} {β : D → D → (D → Prop) → Prop} (ho : OpR X (compareOp op) r) (hb : B2 X.K r β) (ea : EX X W a ta) (eb : EX X W b tb) (hm : behindInMarks op b = false) : EX X W (.Compare a [op] [b] pos) (aOp β ta tb) := by
  obtain ⟨Ta, pa, ra⟩ := ea.ex
  obtain ⟨Tb, pb, rb⟩ := eb.ex
  refine ⟨_, pe_cmpR ho pa pb hm, fun P G F ρ σ H Q Z Q' R h hz hq => ?_⟩
  refine ra P G F ρ σ H _ Z _ R h hz fun G1 ρ1 H1 v d R1 s1 rv h1 => ?_
  refine rb P G1 F ρ1 σ H1 _ Z _ R1 h1 (hz.mono s1) fun G2 ρ2 H2 u e R2 s2 ru h2 => ?_
  exact hb G2 H2 d e v u _ Q' R2.sg (rv.mono s2) ru h2 fun J' H' z w g rz q => hq J' ρ2 H' w z (R2.grow g) ((s1.trans s2).trans g.j) rz q
theorem e_ix {r : R2} {β : D → D → (D → Prop) → Prop} (ho : IxR X r) (hb : B2 X.K r β) (ea : EX X W a ta) (eb : EX X W b tb) (hs : PlainIx b) : EX X W (.Subscript a b pos) (aOp β ta tb) := by
  obtain ⟨Ta, pa, ra⟩ := ea.ex
  obtain ⟨Tb, pb, rb⟩ := eb.ex
  refine ⟨_, pe_ix ho pa pb hs, fun P G F ρ σ H Q Z Q' R h hz hq => ?_⟩
  refine ra P G F ρ σ H _ Z _ R h hz fun G1 ρ1 H1 v d R1 s1 rv h1 => ?_
  refine rb P G1 F ρ1 σ H1 _ Z _ R1 h1 (hz.mono s1) fun G2 ρ2 H2 u e R2 s2 ru h2 => ?_
  exact hb G2 H2 d e v u _ Q' R2.sg (rv.mono s2) ru h2 fun J' H' z w g rz q => hq J' ρ2 H' w z (R2.grow g) ((s1.trans s2).trans g.j) rz q
theorem v_ix {r : R2} {β : D → D → (D → Prop) → Prop} (ho : IxR X r) (hb : B2 X.K r β) (ea : VW X a va) (eb : VW X b vb) (hs : PlainIx b) : VW X (.Subscript a b pos) (vOp β va vb) := by
  obtain ⟨Ta, pa, ra⟩ := ea.ex
  obtain ⟨Tb, pb, rb⟩ := eb.ex
  refine ⟨_, pe_ix ho pa pb hs, fun P G F ρ σ H Q Q' R h hq => ?_⟩
  refine ra P G F ρ σ H _ _ R h fun G1 H1 v d R1 s1 k1 rv h1 => ?_
  refine rb P G1 F ρ σ H1 _ _ R1 h1 fun G2 H2 u e R2 s2 k2 ru h2 => ?_
  exact hb H2 H2 d e v u _ Q' (Same.refl _) (rv.mono k2) ru h2 fun J' H' z w g rz q => hq G2 H' w z (R2.growV g) (s1.trans s2) ((k1.trans k2).trans g.h) (rz.mono g.jh) q
theorem e_un {op : UnaryOp} {r : V → Hp → VK → Prop} {β : D → (D → Prop) → Prop} (ho : UnR X (unaryOp op) r) (hb : B1 X.K r β) (ea : EX X W a ta) : EX X W (.UnaryOp op a pos) (aUn β ta) := by
  obtain ⟨Ta, pa, ra⟩ := ea.ex
  refine ⟨_, pe_un ho pa, fun P G F ρ σ H Q Z Q' R h hz hq => ?_⟩
  refine ra P G F ρ σ H _ Z _ R h hz fun G1 ρ1 H1 v d R1 s1 rv h1 => ?_
  exact hb G1 H1 d v _ Q' R1.sg rv h1 fun J' H' z w g rz q => hq J' ρ1 H' w z (R1.grow g) (s1.trans g.j) rz q
theorem v_un {op : UnaryOp} {r : V → Hp → VK → Prop} {β : D → (D → Prop) → Prop} (ho : UnR X (unaryOp op) r) (hb : B1 X.K r β) (ea : VW X a va) : VW X (.UnaryOp op a pos) (vUn β va) := by
  obtain ⟨Ta, pa, ra⟩ := ea.ex
  refine ⟨_, pe_un ho pa, fun P G F ρ σ H Q Q' R h hq => ?_⟩
  refine ra P G F ρ σ H _ _ R h fun G1 H1 v d R1 s1 k1 rv h1 => ?_
  exact hb H1 H1 d v _ Q' (Same.refl _) rv h1 fun J' H' z w g rz q => hq G1 H' w z (R1.growV g) s1 (k1.trans g.h) (rz.mono g.jh) q
/-! ### from views -/
def D.flat : D → Bool
  | .non | .bl _ | .int _ | .str _ => true
  | _ => false
theorem rp_flat {K : PySem.W.Frag} {G G' : Hp} {d : D} {v : V} (f : d.flat = true) (h : Rp K G d v) : Rp K G' d v := by
  cases d with
  | non => exact rp_non.mpr (rp_non.mp h)
  | bl b => exact rp_bl.mpr (rp_bl.mp h)
  | int i => exact rp_int.mpr (rp_int.mp h)
  | str x => exact rp_str.mpr (rp_str.mp h)
  | _ => cases f
def aFlat (t : AV) : AE := fun ρ Q _ => t ρ fun d => d.flat = true ∧ Q d ρ
theorem e_flat {e : Expr} {t : AV} (h : VW X e t) : EX X W e (aFlat t) := by
  obtain ⟨T, p, r⟩ := h.ex
  exact ⟨T, p, fun P G F ρ σ H Q Z Q' R h hz hq => r P G F ρ σ H _ _ R h fun G' H' v d R' s k rv ⟨f, q⟩ => hq G' ρ H' v d R' s (rp_flat f rv) q⟩
/-! ### tests -/
/-- a value's truth -/
def D.tru : D → Bool
  | .non => false
  | .bl b => b
  | .int i => i != 0
  | .str x => (x.length : Int) != 0
  | .lst xs => !xs.isEmpty
  | .tup xs => !xs.isEmpty
  | .dic => false
  | .obj _ _ _ => true
  | .dct _ _ => true
def D.truOk : D → Prop
  | .str x => x.length ≤ sizeLine
  | .obj _ _ _ => False
  | .dct _ _ => False
  | _ => True
theorem isEmpty_rpl {K : PySem.W.Frag} {G : Hp} {xs : List D} {vs : List V} (h : RpL K G xs vs) : xs.isEmpty = vs.isEmpty := by
  cases xs with
  | nil => rw [rpl_nil.mp h]; rfl
  | cons d ds => obtain ⟨v, r, rfl, _, _⟩ := rpl_cons.mp h; rfl
theorem tru_of {K : PySem.W.Frag} {J H : Hp} {d : D} {v : V} (s : Same J H) (h : Rp K J d v) (ok : d.truOk) : TruV K v H d.tru := by
  cases d with
  | non => rw [rp_non.mp h]; rfl
  | bl b => rw [rp_bl.mp h]; rfl
  | int i => rw [rp_int.mp h]; rfl
  | str x => rw [rp_str.mp h]; exact ⟨ok, rfl⟩
  | lst xs =>
    obtain ⟨a, vs, rfl, h2, h3⟩ := rp_lst.mp h
    exact .inl ⟨vs, s.seq h2, by show (!xs.isEmpty) = _; rw [isEmpty_rpl h3]⟩
  | tup xs =>
    obtain ⟨a, vs, rfl, h2, h3⟩ := rp_tup.mp h
    exact .inr (.inl ⟨vs, Same.seqT s h2, by show (!xs.isEmpty) = _; rw [isEmpty_rpl h3]⟩)
  | dic =>
    obtain ⟨a, rfl, h2⟩ := rp_dic.mp h
    exact .inr (.inr ⟨[], s _ _ h2, rfl⟩)
  | obj _ _ _ => exact ok.elim
  | dct _ _ => exact ok.elim
def aTr (t : AE) : AT := fun ρ Q Z => t ρ (fun d ρ1 => d.truOk ∧ Q d.tru ρ1) Z
def vTr (t : AV) : AT := fun ρ Q _ => t ρ fun d => d.truOk ∧ Q d.tru ρ
/-- a comparison, a name, a call .. as a test -/
theorem t_cmp {op : CmpOp} {r : R2} {β : D → D → (D → Prop) → Prop} (ho : OpR X (compareOp op) r) (hb : B2 X.K r β) (ea : EX X W a ta) (eb : EX X W b tb) (hm : behindInMarks op b = false) : TX X W (.Compare a [op] [b] pos) (fun ρ Q Z => aOp β ta tb ρ (fun d ρ1 => ∃ k, d = .bl k ∧ Q k ρ1) Z) := by
  obtain ⟨Ta, pa, ra⟩ := ea.ex
  obtain ⟨Tb, pb, rb⟩ := eb.ex
  refine ⟨_, pt_cmpR ho pa pb hm, fun P G F ρ σ H Q Z Q' R h hz hq => ?_⟩
  refine ra P G F ρ σ H _ Z _ R h hz fun G1 ρ1 H1 v d R1 s1 rv h1 => ?_
  refine rb P G1 F ρ1 σ H1 _ Z _ R1 h1 (hz.mono s1) fun G2 ρ2 H2 u e R2 s2 ru h2 => ?_
  exact hb G2 H2 d e v u _ _ R2.sg (rv.mono s2) ru h2 fun J' H' z w g rz ⟨k, ez, q⟩ => by
    subst ez
    exact ⟨k, rp_bl.mp rz, hq J' ρ2 H' k (R2.grow g) ((s1.trans s2).trans g.j) q⟩
theorem t_cmpV {op : CmpOp} {r : R2} {β : D → D → (D → Prop) → Prop} (ho : OpR X (compareOp op) r) (hb : B2 X.K r β) (ea : VW X a va) (eb : VW X b vb) (hm : behindInMarks op b = false) : TX X W (.Compare a [op] [b] pos) (fun ρ Q Z => vOp β va vb ρ fun d => ∃ k, d = .bl k ∧ Q k ρ) := by
  obtain ⟨Ta, pa, ra⟩ := ea.ex
  obtain ⟨Tb, pb, rb⟩ := eb.ex
  refine ⟨_, pt_cmpR ho pa pb hm, fun P G F ρ σ H Q Z Q' R h hz hq => ?_⟩
  refine ra P G F ρ σ H _ _ R h fun G1 H1 v d R1 s1 k1 rv h1 => ?_
  refine rb P G1 F ρ σ H1 _ _ R1 h1 fun G2 H2 u e R2 s2 k2 ru h2 => ?_
  exact hb H2 H2 d e v u _ _ (Same.refl _) (rv.mono k2) ru h2 fun J' H' z w g rz ⟨k, ez, q⟩ => by
    subst ez
    exact ⟨k, rp_bl.mp rz, hq G2 ρ H' k (R2.growV g) (s1.trans s2) q⟩
theorem t_tru (ea : EX X W a ta) (he : ∀ whole, isTrue a X.env whole = (do let v ← whole; standAt a.pos; holding [v] (truthy v)) := by intro _; rfl) : TX X W a (aTr ta) := by
  obtain ⟨Ta, pa, ra⟩ := ea.ex
  refine ⟨_, pt_truth pa he, fun P G F ρ σ H Q Z Q' R h hz hq => ?_⟩
  refine ra P G F ρ σ H _ Z _ R h hz fun G1 ρ1 H1 v d R1 s1 rv ⟨h1, h2⟩ => ?_
  exact ⟨d.tru, tru_of R1.sg rv h1, hq G1 ρ1 H1 _ R1 s1 h2⟩
theorem t_truV (ea : VW X a va) (he : ∀ whole, isTrue a X.env whole = (do let v ← whole; standAt a.pos; holding [v] (truthy v)) := by intro _; rfl) : TX X W a (vTr va) := by
  obtain ⟨Ta, pa, ra⟩ := ea.ex
  refine ⟨_, pt_truth pa he, fun P G F ρ σ H Q Z Q' R h hz hq => ?_⟩
  refine ra P G F ρ σ H _ _ R h fun G1 H1 v d R1 s1 k1 rv ⟨h1, h2⟩ => ?_
  exact ⟨d.tru, tru_of (Same.refl _) rv h1, hq G1 ρ H1 _ R1 s1 h2⟩
def aNot (t : AT) : AT := fun ρ Q Z => t ρ (fun c ρ1 => Q (!c) ρ1) Z
theorem t_not {t : AT} (h : TX X W a t) : TX X W (.UnaryOp .Not a pos) (aNot t) := by
  obtain ⟨T, p, r⟩ := h.ex
  exact ⟨_, pt_not p, fun P G F ρ σ H Q Z Q' R h hz hq => r P G F ρ σ H _ Z _ R h hz fun G1 ρ1 H1 b R1 s1 q => hq G1 ρ1 H1 _ R1 s1 q⟩
def aAnd (t u : AT) : AT := fun ρ Q Z => t ρ (fun c ρ1 => if c = true then u ρ1 Q Z else Q false ρ1) Z
def aOr (t u : AT) : AT := fun ρ Q Z => t ρ (fun c ρ1 => if c = true then Q true ρ1 else u ρ1 Q Z) Z
variable {t u : AT} {rest : List Expr}
theorem tw_and1 (h : TX X W a t) : TWX X W (.BoolOp .And [a] pos) t := by
  obtain ⟨T, p, r⟩ := h.ex
  exact ⟨_, pw_and1 p, r⟩
theorem tw_or1 (h : TX X W a t) : TWX X W (.BoolOp .Or [a] pos) t := by
  obtain ⟨T, p, r⟩ := h.ex
  exact ⟨_, pw_or1 p, r⟩
theorem tw_and (h : TX X W a t) (k : TWX X W (.BoolOp .And (b :: rest) pos) u) : TWX X W (.BoolOp .And (a :: b :: rest) pos) (aAnd t u) := by
  obtain ⟨T, p, r⟩ := h.ex
  obtain ⟨U, p', r'⟩ := k.ex
  refine ⟨_, pw_and p p', fun P G F ρ σ H Q Z Q' R h hz hq => ?_⟩
  refine r P G F ρ σ H _ Z _ R h hz fun G1 ρ1 H1 c R1 s1 q => ?_
  cases c with
  | true => exact iteT (r' P G1 F ρ1 σ H1 Q Z Q' R1 (by rw [if_pos rfl] at q; exact q) (hz.mono s1) fun G2 ρ2 H2 c R2 s2 q => hq G2 ρ2 H2 c R2 (s1.trans s2) q)
  | false => exact iteF (hq G1 ρ1 H1 false R1 s1 (by rw [if_neg Bool.false_ne_true] at q; exact q))
theorem tw_or (h : TX X W a t) (k : TWX X W (.BoolOp .Or (b :: rest) pos) u) : TWX X W (.BoolOp .Or (a :: b :: rest) pos) (aOr t u) := by
  obtain ⟨T, p, r⟩ := h.ex
  obtain ⟨U, p', r'⟩ := k.ex
  refine ⟨_, pw_or p p', fun P G F ρ σ H Q Z Q' R h hz hq => ?_⟩
  refine r P G F ρ σ H _ Z _ R h hz fun G1 ρ1 H1 c R1 s1 q => ?_
  cases c with
  | true => exact iteT (hq G1 ρ1 H1 true R1 s1 (by rw [if_pos rfl] at q; exact q))
  | false => exact iteF (r' P G1 F ρ1 σ H1 Q Z Q' R1 (by rw [if_neg Bool.false_ne_true] at q; exact q) (hz.mono s1) fun G2 ρ2 H2 c R2 s2 q => hq G2 ρ2 H2 c R2 (s1.trans s2) q)
theorem tw (h : TWX X W a t) : TX X W a t := by
  obtain ⟨T, p, r⟩ := h.ex
  exact ⟨T, p.pt, r⟩
/-! ### and, or, not, if .. else as values -/
def aAndV (ta tb : AE) : AE := fun ρ Q Z => ta ρ (fun x ρ1 => x.truOk ∧ if x.tru = true then tb ρ1 Q Z else Q x ρ1) Z
def aOrV (ta tb : AE) : AE := fun ρ Q Z => ta ρ (fun x ρ1 => x.truOk ∧ if x.tru = true then Q x ρ1 else tb ρ1 Q Z) Z
def vAndV (ta tb : AV) : AV := fun ρ Q => ta ρ fun x => x.truOk ∧ if x.tru = true then tb ρ Q else Q x
def vOrV (ta tb : AV) : AV := fun ρ Q => ta ρ fun x => x.truOk ∧ if x.tru = true then Q x else tb ρ Q
theorem e_one {op} (h : EX X W a ta) : EX X W (.BoolOp op [a] pos) ta := by
  obtain ⟨T, p, r⟩ := h.ex
  exact ⟨T, pe_one p, r⟩
theorem e_and (h : EX X W a ta) (k : EX X W (.BoolOp .And (b :: rest) pos) tb) : EX X W (.BoolOp .And (a :: b :: rest) pos) (aAndV ta tb) := by
  obtain ⟨T, p, r⟩ := h.ex
  obtain ⟨U, p', r'⟩ := k.ex
  refine ⟨_, pe_andT p p', fun P G F ρ σ H Q Z Q' R h hz hq => ?_⟩
  refine r P G F ρ σ H _ Z _ R h hz fun G1 ρ1 H1 v d R1 s1 rv ⟨ok, q⟩ => ⟨d.tru, tru_of R1.sg rv ok, ?_⟩
  split
  · rename_i e
    rw [if_pos e] at q
    exact r' P G1 F ρ1 σ H1 Q Z Q' R1 q (hz.mono s1) fun G2 ρ2 H2 v d R2 s2 rv q => hq G2 ρ2 H2 v d R2 (s1.trans s2) rv q
  · rename_i e
    rw [if_neg e] at q
    exact hq G1 ρ1 H1 v d R1 s1 rv q
theorem e_or (h : EX X W a ta) (k : EX X W (.BoolOp .Or (b :: rest) pos) tb) : EX X W (.BoolOp .Or (a :: b :: rest) pos) (aOrV ta tb) := by
  obtain ⟨T, p, r⟩ := h.ex
  obtain ⟨U, p', r'⟩ := k.ex
  refine ⟨_, pe_orT p p', fun P G F ρ σ H Q Z Q' R h hz hq => ?_⟩
  refine r P G F ρ σ H _ Z _ R h hz fun G1 ρ1 H1 v d R1 s1 rv ⟨ok, q⟩ => ⟨d.tru, tru_of R1.sg rv ok, ?_⟩
  split
  · rename_i e
    rw [if_pos e] at q
    exact hq G1 ρ1 H1 v d R1 s1 rv q
  · rename_i e
    rw [if_neg e] at q
    exact r' P G1 F ρ1 σ H1 Q Z Q' R1 q (hz.mono s1) fun G2 ρ2 H2 v d R2 s2 rv q => hq G2 ρ2 H2 v d R2 (s1.trans s2) rv q
def bNot : D → (D → Prop) → Prop := fun x Q => x.truOk ∧ Q (.bl (!x.tru))
def aIfE (t : AT) (ta tb : AE) : AE := fun ρ Q Z => t ρ (fun c ρ1 => if c = true then ta ρ1 Q Z else tb ρ1 Q Z) Z
theorem e_if {c : Expr} (h : TX X W c t) (ea : EX X W a ta) (eb : EX X W b tb) : EX X W (.IfExp c a b pos) (aIfE t ta tb) := by
  obtain ⟨T, p, r⟩ := h.ex
  obtain ⟨Ta, pa, ra⟩ := ea.ex
  obtain ⟨Tb, pb, rb⟩ := eb.ex
  refine ⟨_, pe_ifExp p pa pb, fun P G F ρ σ H Q Z Q' R h hz hq => ?_⟩
  refine r P G F ρ σ H _ Z _ R h hz fun G1 ρ1 H1 c R1 s1 q => ?_
  cases c with
  | true => exact iteT (ra P G1 F ρ1 σ H1 Q Z Q' R1 (by rw [if_pos rfl] at q; exact q) (hz.mono s1) fun G2 ρ2 H2 v d R2 s2 rv q => hq G2 ρ2 H2 v d R2 (s1.trans s2) rv q)
  | false => exact iteF (rb P G1 F ρ1 σ H1 Q Z Q' R1 (by rw [if_neg Bool.false_ne_true] at q; exact q) (hz.mono s1) fun G2 ρ2 H2 v d R2 s2 rv q => hq G2 ρ2 H2 v d R2 (s1.trans s2) rv q)
/-! ### own lists -/
def aFrz (t : AO) : AE := fun ρ Q Z => t ρ (fun xs ρ1 => Q (.lst xs) ρ1) Z
/-- the list is from now on data -/
theorem Rel.keep {K : PySem.W.Frag} {P : List (Nat × Addr)} {G F : Hp} {ρ : List Sv} {σ : St} {H : Hp} {a : Addr} {o : HO} (R : Rel K P G F ρ σ H) (h2 : H a = some o) (h3 : G a = none) (h4 : F a = none)
    (hn : NoS ρ σ a) : Rel K P (upd G a o) F ρ σ H := by
  have sG : Same G (upd G a o) := same_new h3
  refine ⟨R.len, fun b u q => ?_, R.sf, fun b u q => ?_, fun j d q => ?_, fun j b ys q => ?_, R.ne, R.pin, R.pinc, R.tr.same sG fun j t b q hb => ?_⟩
  · by_cases hb : b = a
    · rw [hb, upd_same] at q; rw [hb, h2]; exact q
    · rw [upd_ne hb] at q; exact R.sg _ _ q
  · rw [upd_ne (ne_of_none q h4)]; exact R.gf b u q
  · obtain ⟨v, g1, g2⟩ := R.dat j d q
    exact ⟨v, g1, g2.mono sG⟩
  · obtain ⟨c, us, g1, g2, g3, g4, g5⟩ := R.own j b ys q
    refine ⟨c, us, g1, g2, ?_, g4, g5.mono sG⟩
    rw [upd_ne fun z => ?_]
    · exact g3
    · subst z
      exact hn.own j b ys q g1
  · obtain ⟨_, g2, g3⟩ := R.tr.ex q hb
    exact ⟨rfl, by rw [upd_ne fun z => hn.tre j t q (by rw [← z]; exact hb)]; exact g2, g3⟩
theorem e_frz {e : Expr} {t : AO} (h : EO X W e t) : EX X W e (aFrz t) := by
  obtain ⟨T, p, r⟩ := h.ex
  refine ⟨T, p, fun P G F ρ σ H Q Z Q' R h hz hq => r P G F ρ σ H _ Z _ R h hz fun G1 ρ1 H1 a vs xs R1 s1 h2 h3 h4 hn hr q => ?_⟩
  have sG : Same G1 (upd G1 a (.lst vs)) := same_new h3
  exact hq _ ρ1 H1 (.ref a) (.lst xs) (R1.keep h2 h3 h4 hn) (s1.trans sG) (rp_lst.mpr ⟨a, vs, rfl, SqL.of upd_same, hr.mono sG⟩) q
/-! ### argument lists -/
abbrev AA := List Sv → (List D → List Sv → Prop) → KX → Prop
abbrev VA := List Sv → (List D → Prop) → Prop
structure EXs (X : Cx) (W : WX) (es : List Expr) (t : AA) : Prop where
  ex : ∃ T : TA, PA X es T ∧ ∀ P G F ρ σ H (Q : List D → List Sv → Prop) (Z : KX) (Q' : List V → Hp → Prop), Rel X.K P G F ρ σ H → t ρ Q Z → XIn X W P G F σ Z →
    (∀ G' ρ' H' vs ds, Rel X.K P G' F ρ' σ H' → Same G G' → RpL X.K G' ds vs → Q ds ρ' → Q' vs H') → T σ H Q'
structure VWs (X : Cx) (es : List Expr) (t : VA) : Prop where
  ex : ∃ T : TA, PA X es T ∧ ∀ P G F ρ σ H (Q : List D → Prop) (Q' : List V → Hp → Prop), Rel X.K P G F ρ σ H → t ρ Q →
    (∀ G' H' vs ds, Rel X.K P G' F ρ σ H' → Same G G' → Same H H' → RpL X.K H' ds vs → Q ds → Q' vs H') → T σ H Q'
def aNil : AA := fun ρ Q _ => Q [] ρ
def vNil : VA := fun _ Q => Q []
def aCons (t : AE) (u : AA) : AA := fun ρ Q Z => t ρ (fun d ρ1 => u ρ1 (fun ds ρ2 => Q (d :: ds) ρ2) Z) Z
def vCons (t : AV) (u : VA) : VA := fun ρ Q => t ρ fun d => u ρ fun ds => Q (d :: ds)
theorem es_nil : EXs X W [] aNil := ⟨_, pa_nil, fun P G F ρ σ H Q Z Q' R h hz hq => hq G ρ H [] [] R (Same.refl _) RpL.nil h⟩
theorem vs_nil : VWs X [] vNil := ⟨_, pa_nil, fun P G F ρ σ H Q Q' R h hq => hq G H [] [] R (Same.refl _) (Same.refl _) RpL.nil h⟩
theorem es_cons {es : List Expr} {u : AA} (ea : EX X W a ta) (k : EXs X W es u) (hs : starEach (a :: es) X.env = (false, eval a X.env) :: starEach es X.env := by rfl) : EXs X W (a :: es) (aCons ta u) := by
  obtain ⟨T, p, r⟩ := ea.ex
  obtain ⟨U, p', r'⟩ := k.ex
  refine ⟨_, pa_cons p p' hs, fun P G F ρ σ H Q Z Q' R h hz hq => ?_⟩
  refine r P G F ρ σ H _ Z _ R h hz fun G1 ρ1 H1 v d R1 s1 rv q => ?_
  exact r' P G1 F ρ1 σ H1 _ Z _ R1 q (hz.mono s1) fun G2 ρ2 H2 vs ds R2 s2 rs q => hq G2 ρ2 H2 _ _ R2 (s1.trans s2) (RpL.cons (rv.mono s2) rs) q
theorem vs_cons {es : List Expr} {u : VA} (ea : VW X a va) (k : VWs X es u) (hs : starEach (a :: es) X.env = (false, eval a X.env) :: starEach es X.env := by rfl) : VWs X (a :: es) (vCons va u) := by
  obtain ⟨T, p, r⟩ := ea.ex
  obtain ⟨U, p', r'⟩ := k.ex
  refine ⟨_, pa_cons p p' hs, fun P G F ρ σ H Q Q' R h hq => ?_⟩
  refine r P G F ρ σ H _ _ R h fun G1 H1 v d R1 s1 k1 rv q => ?_
  exact r' P G1 F ρ σ H1 _ _ R1 q fun G2 H2 vs ds R2 s2 k2 rs q => hq G2 H2 _ _ R2 (s1.trans s2) (k1.trans k2) (RpL.cons (rv.mono k2) rs) q
/-! ### displays -/
def aTup (t : AA) : AE := fun ρ Q Z => t ρ (fun ds ρ1 => ds.length ≤ sizeLine ∧ Q (.tup ds) ρ1) Z
def vTup (t : VA) : AV := fun ρ Q => t ρ fun ds => ds.length ≤ sizeLine ∧ Q (.tup ds)
def oLst (t : AA) : AO := fun ρ Q Z => t ρ (fun ds ρ1 => ds.length ≤ sizeLine ∧ Q ds ρ1) Z
def vLst (t : VA) : AV := fun ρ Q => t ρ fun ds => ds.length ≤ sizeLine ∧ Q (.lst ds)
variable {es : List Expr} {u' : AA} {w' : VA}
theorem e_tup {x1} (h : EXs X W es u') : EX X W (.Tuple es x1 pos) (aTup u') := by
  obtain ⟨T, p, r⟩ := h.ex
  refine ⟨_, pe_tup p, fun P G F ρ σ H Q Z Q' R h hz hq => ?_⟩
  refine r P G F ρ σ H _ Z _ R h hz fun G1 ρ1 H1 vs ds R1 s1 rs ⟨hl, q⟩ => ⟨by rw [← rs.length]; exact hl, fun p hp => ?_⟩
  have g := Grow.new (o := .tup vs) R1.sg hp
  exact hq _ ρ1 _ (.ref p) (.tup ds) (R1.grow g) (s1.trans g.j) (rp_tup.mpr ⟨p, vs, rfl, SqT.of upd_same, rs.mono g.j⟩) q
theorem not_own {K : PySem.W.Frag} {P : List (Nat × Addr)} {G F : Hp} {ρ : List Sv} {σ : St} {H : Hp} {p : Addr} (R : Rel K P G F ρ σ H) (hp : H p = none) : NoS ρ σ p where
  own := fun i b ys q e => by
    obtain ⟨a, us, g1, g2, _⟩ := R.own i b ys q
    rw [e] at g1
    cases g1
    rw [hp] at g2
    cases g2
  tre := fun i t q hb => by
    obtain ⟨⟨vs, g1⟩, _⟩ := R.tr.ex q hb
    rw [hp] at g1
    cases g1
theorem o_lst (h : EXs X W es u') : EO X W (.List es pos) (oLst u') := by
  obtain ⟨T, p, r⟩ := h.ex
  refine ⟨_, pe_lst p, fun P G F ρ σ H Q Z Q' R h hz hq => ?_⟩
  refine r P G F ρ σ H _ Z _ R h hz fun G1 ρ1 H1 vs ds R1 s1 rs ⟨hl, q⟩ => ⟨by rw [← rs.length]; exact hl, fun p hp => ?_⟩
  exact hq G1 ρ1 _ p vs ds (R1.alloc hp) s1 upd_same (R1.sg.free hp) (R1.sf.free hp) (not_own R1 hp) rs q
theorem v_lst (h : VWs X es w') : VW X (.List es pos) (vLst w') := by
  obtain ⟨T, p, r⟩ := h.ex
  refine ⟨_, pe_lst p, fun P G F ρ σ H Q Q' R h hq => ?_⟩
  refine r P G F ρ σ H _ _ R h fun G1 H1 vs ds R1 s1 k1 rs ⟨hl, q⟩ => ⟨by rw [← rs.length]; exact hl, fun p hp => ?_⟩
  have g := Grow.new (o := .lst vs) (Same.refl H1) hp
  exact hq G1 _ (.ref p) (.lst ds) (R1.growV g) s1 (k1.trans g.h) (rp_lst.mpr ⟨p, vs, rfl, SqL.of upd_same, rs.mono g.h⟩) q
def aDic : AE := fun ρ Q _ => Q .dic ρ
theorem e_dic : EX X W (.Dict [] [] pos) aDic := by
  refine ⟨_, pe_dnewK, fun P G F ρ σ H Q Z Q' R h hz hq => fun p hp => ?_⟩
  have g := Grow.new (o := .dK []) R.sg hp
  exact hq _ ρ _ (.ref p) .dic (R.grow g) g.j (rp_dic.mpr ⟨p, rfl, upd_same⟩) h
/-! ### calls of built-ins -/
def aCall (β : List D → (D → Prop) → Prop) (t : AA) : AE := fun ρ Q Z => t ρ (fun ds ρ1 => β ds fun z => Q z ρ1) Z
def vCall (β : List D → (D → Prop) → Prop) (t : VA) : AV := fun ρ Q => t ρ fun ds => β ds Q
variable {x : Str} {p : Pos} {id T : String} {r : List V → Hp → VK → Prop} {β : List D → (D → Prop) → Prop}
theorem e_callB (hc : CallR X (.builtin id) r) (hb : BN X.K r β) (hg : Gl X x) (hm : X.mg x = none) (hv : bootBuiltins x = some (.builtin id)) (ha : EXs X W (a :: es) u') (hn : x ≠ "__name__" := by decide) (hdb : (x == ("__debug__" : Str)) = false := by decide)
    (he : starEach (a :: es) X.env = (false, eval a X.env) :: starEach es X.env := by rfl) (hpl : (backTo pos (starEach es X.env)).any (·.1) = false := by rfl) : EX X W (.Call (.Name x p) (a :: es) [] pos) (aCall β u') := by
  obtain ⟨T, p, r⟩ := ha.ex
  refine ⟨_, pe_callB hc hg hm hv p hn hdb he hpl, fun P G F ρ σ H Q Z Q' R h hz hq => ?_⟩
  refine r P G F ρ σ H _ Z _ R h hz fun G1 ρ1 H1 vs ds R1 s1 rs q => ?_
  exact hb G1 H1 ds vs _ Q' R1.sg rs q fun J' H' z w g rz q => hq J' ρ1 H' w z (R1.grow g) (s1.trans g.j) rz q
theorem e_callT (hc : CallR X (.type T) r) (hb : BN X.K r β) (hg : Gl X x) (hm : X.mg x = none) (hv : bootBuiltins x = some (.type T)) (ha : EXs X W (a :: es) u') (hn : x ≠ "__name__" := by decide) (hdb : (x == ("__debug__" : Str)) = false := by decide)
    (he : starEach (a :: es) X.env = (false, eval a X.env) :: starEach es X.env := by rfl) (hpl : (backTo pos (starEach es X.env)).any (·.1) = false := by rfl) : EX X W (.Call (.Name x p) (a :: es) [] pos) (aCall β u') := by
  obtain ⟨T, p, r⟩ := ha.ex
  refine ⟨_, pe_callTy hc hg hm hv p hn hdb he hpl, fun P G F ρ σ H Q Z Q' R h hz hq => ?_⟩
  refine r P G F ρ σ H _ Z _ R h hz fun G1 ρ1 H1 vs ds R1 s1 rs q => ?_
  exact hb G1 H1 ds vs _ Q' R1.sg rs q fun J' H' z w g rz q => hq J' ρ1 H' w z (R1.grow g) (s1.trans g.j) rz q
theorem v_callB (hc : CallR X (.builtin id) r) (hb : BN X.K r β) (hg : Gl X x) (hm : X.mg x = none) (hv : bootBuiltins x = some (.builtin id)) (ha : VWs X (a :: es) w') (hn : x ≠ "__name__" := by decide) (hdb : (x == ("__debug__" : Str)) = false := by decide)
    (he : starEach (a :: es) X.env = (false, eval a X.env) :: starEach es X.env := by rfl) (hpl : (backTo pos (starEach es X.env)).any (·.1) = false := by rfl) : VW X (.Call (.Name x p) (a :: es) [] pos) (vCall β w') := by
  obtain ⟨T, p, r⟩ := ha.ex
  refine ⟨_, pe_callB hc hg hm hv p hn hdb he hpl, fun P G F ρ σ H Q Q' R h hq => ?_⟩
  refine r P G F ρ σ H _ _ R h fun G1 H1 vs ds R1 s1 k1 rs q => ?_
  exact hb H1 H1 ds vs _ Q' (Same.refl _) rs q fun J' H' z w g rz q => hq G1 H' w z (R1.growV g) s1 (k1.trans g.h) (rz.mono g.jh) q
end
end VS
/-! VSc: the operations on data. -/
namespace VS
open PySem PySem.Spec PyProof.Rows L2
section
variable {K : PySem.W.Frag} {X : Cx}
theorem rp_i {G : Hp} (i : Int) : Rp K G (.int i) (.int i) := rp_int.mpr rfl
theorem rp_b {G : Hp} (b : Bool) : Rp K G (.bl b) (.bl b) := rp_bl.mpr rfl
theorem rp_s {G : Hp} (x : Str) : Rp K G (.str x) (.str x) := rp_str.mpr rfl
/-! ### arithmetic -/
def bI (C : Int → Int → Prop) (g : Int → Int → D) : D → D → (D → Prop) → Prop
  | .int i, .int j, Q => C i j ∧ Q (g i j)
  | _, _, _ => False
theorem bI_iff {C : Int → Int → Prop} {g : Int → Int → D} {x y : D} {Q : D → Prop} (h : bI C g x y Q) : ∃ i j, x = .int i ∧ y = .int j ∧ C i j ∧ Q (g i j) := by
  cases x <;> cases y <;> first | exact ⟨_, _, rfl, rfl, h.1, h.2⟩ | exact h.elim
theorem b2_int {C : Int → Int → Prop} {g : Int → Int → V} {g' : Int → Int → D} (hg : ∀ G i j, Rp K G (g' i j) (g i j)) : B2 K (rI C g) (bI C g') := fun J H d e v u Q Q' s rv ru h hq => by
  obtain ⟨i, j, rfl, rfl, hc, q⟩ := bI_iff h
  exact ⟨i, j, rp_int.mp rv, rp_int.mp ru, hc, hq J H _ _ (Grow.refl s) (hg J i j) q⟩
theorem b2_int0 {g : Int → Int → V} {g' : Int → Int → D} (hg : ∀ G i j, Rp K G (g' i j) (g i j)) : B2 K (rI0 g) (bI (fun _ _ => True) g') := fun J H d e v u Q Q' s rv ru h hq => by
  obtain ⟨i, j, rfl, rfl, _, q⟩ := bI_iff h
  exact ⟨i, j, rp_int.mp rv, rp_int.mp ru, hq J H _ _ (Grow.refl s) (hg J i j) q⟩
/-- list + list, whatever the lists -/
def rCatS (K : PySem.W.Frag) : R2 := fun x y H Q => ∃ l b xs zs, x = .ref l ∧ y = .ref b ∧ SqL K H l xs ∧ SqL K H b zs ∧ xs.length + zs.length ≤ sizeLine ∧ ∀ p, H p = none → Q (.ref p) (upd H p (.lst (xs ++ zs)))
theorem op_catS : OpR X (binaryOp .Add) (rCatS X.K) := by
  intro pins s σ H x y v u Q I rx ry ⟨l, b, xs, zs, ex, ey, hL, hB, hz, q⟩
  subst ex ey
  cases rx
  cases ry
  obtain ⟨is1, r1, ⟨⟨c1, d1, t1, sl1⟩, n1, g1, k1, e1, f1⟩, z1⟩ := I.list hL
  obtain ⟨is2, r2, ⟨⟨c2, d2, t2, sl2⟩, n2, g2, k2, e2, f2⟩, z2⟩ := I.list hB
  simp only at k1 e1 f1 k2 e2 f2
  subst k1 e1 f1 k2 e2 f2
  have m1 := r1.length
  have m2 := r2.length
  have hsz : is1.toArray.size + is2.toArray.size ≤ sizeLine := by simp only [List.size_toArray]; omega
  refine concat_meets ⟨_, g1, rfl⟩ ⟨_, g2, rfl⟩ noFill_list_add seq_list_add PySem.F.slot_list_add PySem.F.entry_list_add (PySem.F.args_list_add_2 _ _) (list_addW l b _ _ n1 n2 none none sl1 sl2 hsz) ⟨g1, g2, ?_⟩
  have ea : is1.toArray ++ is2.toArray = (is1 ++ is2).toArray := by simp
  rw [ea]
  exact ⟨.ref _, _, I.lnew (t' := s.toks) (r1.append r2) (by simp only [List.length_append]; omega), rfl, q _ I.fresh⟩
/-- a + b: ints, texts, lists -/
def bAdd : D → D → (D → Prop) → Prop
  | .int i, .int j, Q => Q (.int (i + j))
  | .str x, .str y, Q => x.length + y.length ≤ sizeLine ∧ Q (.str (x ++ y))
  | .lst xs, .lst ys, Q => xs.length + ys.length ≤ sizeLine ∧ Q (.lst (xs ++ ys))
  | _, _, _ => False
def rAdd3 (K : PySem.W.Frag) : R2 := fun x y H Q => (rI0 (fun i j => .int (i + j)) x y H Q ∨ (∃ i j, x = .str i ∧ y = .str j ∧ i.length + j.length ≤ sizeLine ∧ Q (.str (i ++ j)) H)) ∨ rCatS K x y H Q
theorem op_addA : OpR X (binaryOp .Add) (rAdd3 X.K) := OpR.or (OpR.or op_add op_add_str) op_catS
theorem b2_add : B2 K (rAdd3 K) bAdd := fun J H d e v u Q Q' s rv ru h hq => by
  cases d <;> cases e <;> first
    | exact h.elim
    | exact .inl (.inl ⟨_, _, rp_int.mp rv, rp_int.mp ru, hq J H _ _ (Grow.refl s) (rp_i _) h⟩)
    | exact .inl (.inr ⟨_, _, rp_str.mp rv, rp_str.mp ru, h.1, hq J H _ _ (Grow.refl s) (rp_s _) h.2⟩)
    | skip
  obtain ⟨a, vs, rfl, h2, h3⟩ := rp_lst.mp rv
  obtain ⟨b, us, rfl, g2, g3⟩ := rp_lst.mp ru
  refine .inr ⟨a, b, vs, us, rfl, rfl, s.seq h2, s.seq g2, by rw [← h3.length, ← g3.length]; exact h.1, fun p hp => ?_⟩
  have g := Grow.new (o := .lst (vs ++ us)) s hp
  exact hq _ _ _ _ g (rp_lst.mpr ⟨p, _, rfl, SqL.of upd_same, (h3.append g3).mono g.j⟩) h.2
def bSub : D → D → (D → Prop) → Prop := bI (fun _ _ => True) fun i j => .int (i - j)
theorem b2_sub : B2 K (rI0 fun i j => .int (i - j)) bSub := b2_int0 fun _ _ _ => rp_i _
/-- a factor is short, or both together are not long -/
def CMulA (i j : Int) : Prop := CMul i j ∨ CMulX i j
theorem op_mulA : OpR X (binaryOp .Mult) (rI CMulA fun i j => .int (i * j)) := opI fun _ _ _ _ _ _ _ hc q => mul_int q (Or.elim hc CMul.ok CMulX.ok)
def bMul : D → D → (D → Prop) → Prop := bI CMulA fun i j => .int (i * j)
def bDiv : D → D → (D → Prop) → Prop := bI CDivW fun i j => .int (i / j)
theorem b2_div : B2 K (rI CDivW fun i j => .int (i / j)) bDiv := b2_int fun _ _ _ => rp_i _
def bMod : D → D → (D → Prop) → Prop := bI (fun _ j => 0 < j) fun i j => .int (i % j)
theorem b2_mod : B2 K (rI (fun _ j => 0 < j) fun i j => .int (i % j)) bMod := b2_int fun _ _ _ => rp_i _
def bPow : D → D → (D → Prop) → Prop := bI CPow fun i j => .int (i ^ j.toNat)
theorem b2_pow : B2 K (rI CPow fun i j => .int (i ^ j.toNat)) bPow := b2_int fun _ _ _ => rp_i _
def bNeg : D → (D → Prop) → Prop
  | .int i, Q => Q (.int (-i))
  | _, _ => False
theorem b1_neg : B1 K (rU fun i => .int (-i)) bNeg := fun J H d v Q Q' s rv h hq => by
  cases d <;> first | exact ⟨_, rp_int.mp rv, hq J H _ _ (Grow.refl s) (rp_i _) h⟩ | exact h.elim
/-! ### comparisons -/
/-- < and so on of ints and of texts -/
def bOrd (f : Int → Int → Bool) (g : List Nat → List Nat → Bool) : D → D → (D → Prop) → Prop
  | .int i, .int j, Q => Q (.bl (f i j))
  | .str x, .str y, Q => Q (.bl (g x.cps.toList y.cps.toList))
  | _, _, _ => False
def rOrd (f : Int → Int → Bool) (g : List Nat → List Nat → Bool) : R2 := fun x y H Q => rI0 (fun i j => .bl (f i j)) x y H Q ∨ ∃ i j, x = .str i ∧ y = .str j ∧ Q (.bl (g i.cps.toList j.cps.toList)) H
theorem b2_ord {f : Int → Int → Bool} {g : List Nat → List Nat → Bool} : B2 K (rOrd f g) (bOrd f g) := fun J H d e v u Q Q' s rv ru h hq => by
  cases d <;> cases e <;> first
    | exact h.elim
    | exact .inl ⟨_, _, rp_int.mp rv, rp_int.mp ru, hq J H _ _ (Grow.refl s) (rp_b _) h⟩
    | exact .inr ⟨_, _, rp_str.mp rv, rp_str.mp ru, hq J H _ _ (Grow.refl s) (rp_b _) h⟩
abbrev bLt := bOrd (fun i j => decide (i < j)) fun x y => decide (x < y)
abbrev bLe := bOrd (fun i j => decide (i ≤ j)) fun x y => !decide (y < x)
abbrev bGt := bOrd (fun i j => decide (j < i)) fun x y => decide (y < x)
abbrev bGe := bOrd (fun i j => decide (j ≤ i)) fun x y => !decide (x < y)
theorem op_ltA : OpR X (compareOp .Lt) (rOrd (fun i j => decide (i < j)) fun x y => decide (x < y)) := OpR.or op_lt op_lt_str
theorem op_leA : OpR X (compareOp .LtE) (rOrd (fun i j => decide (i ≤ j)) fun x y => !decide (y < x)) := OpR.or op_le op_le_str
theorem op_gtA : OpR X (compareOp .Gt) (rOrd (fun i j => decide (j < i)) fun x y => decide (y < x)) := OpR.or op_gt op_gt_str
theorem op_geA : OpR X (compareOp .GtE) (rOrd (fun i j => decide (j ≤ i)) fun x y => !decide (x < y)) := OpR.or op_ge op_ge_str
/-- is None, is not None -/
def D.isN : D → Bool
  | .non => true
  | _ => false
def bIsN : D → D → (D → Prop) → Prop := fun x y Q => y = .non ∧ Q (.bl x.isN)
def bNotN : D → D → (D → Prop) → Prop := fun x y Q => y = .non ∧ Q (.bl (!x.isN))
theorem isN_of {J : Hp} {d : D} {v : V} (h : Rp K J d v) : decide (v = .non) = d.isN := by
  cases d with
  | non => rw [rp_non.mp h]; rfl
  | bl b => rw [rp_bl.mp h]; rfl
  | int i => rw [rp_int.mp h]; rfl
  | str x => rw [rp_str.mp h]; rfl
  | lst xs => obtain ⟨a, vs, rfl, _⟩ := rp_lst.mp h; rfl
  | tup xs => obtain ⟨a, vs, rfl, _⟩ := rp_tup.mp h; rfl
  | dic => obtain ⟨a, rfl, _⟩ := rp_dic.mp h; rfl
  | obj C ns xs => obtain ⟨A, a, vs, _, rfl, _⟩ := rp_objA.mp h; rfl
  | dct ks xs => obtain ⟨a, vs, rfl, _⟩ := rp_dct.mp h; rfl
theorem b2_isN : B2 K (fun x y H Q => y = .non ∧ Q (.bl (decide (x = .non))) H) bIsN := fun J H d e v u Q Q' s rv ru h hq => by
  obtain ⟨rfl, q⟩ := h
  exact ⟨rp_non.mp ru, by rw [isN_of rv]; exact hq J H _ _ (Grow.refl s) (rp_b _) q⟩
theorem b2_notN : B2 K (fun x y H Q => y = .non ∧ Q (.bl (!decide (x = .non))) H) bNotN := fun J H d e v u Q Q' s rv ru h hq => by
  obtain ⟨rfl, q⟩ := h
  exact ⟨rp_non.mp ru, by rw [isN_of rv]; exact hq J H _ _ (Grow.refl s) (rp_b _) q⟩
/-! ### data as the model's plain data -/
mutual
def D.py : D → PyData
  | .non => .none
  | .bl b => .bool b
  | .int i => .int i
  | .str x => .str x
  | .lst xs => .list (D.pyL xs)
  | .tup xs => .tuple (D.pyL xs)
  | .dic => .dict []
  | .obj _ _ _ => .none
  | .dct _ _ => .none
def D.pyL : List D → List PyData
  | [] => []
  | d :: ds => d.py :: D.pyL ds
end
mutual
/-- no objects, (nd) no dicts -/
def D.pl (nd : Bool) : D → Bool
  | .obj _ _ _ => false
  | .dct _ _ => false
  | .dic => !nd
  | .lst xs => D.plL nd xs
  | .tup xs => D.plL nd xs
  | .non | .bl _ | .int _ | .str _ => true
def D.plL (nd : Bool) : List D → Bool
  | [] => true
  | d :: ds => d.pl nd && D.plL nd ds
end
mutual
theorem dp_of {H : Hp} : ∀ {d : D} {v : V}, Rp K H d v → d.pl true = true → Dp K H v d.py
  | .non, _, h, _ => by rw [rp_non.mp h]; simp only [D.py]; exact .non
  | .bl b, _, h, _ => by rw [rp_bl.mp h]; simp only [D.py]; exact .bl b
  | .int i, _, h, _ => by rw [rp_int.mp h]; simp only [D.py]; exact .int i
  | .str x, _, h, _ => by rw [rp_str.mp h]; simp only [D.py]; exact .str x
  | .lst xs, _, h, p => by
    obtain ⟨a, vs, rfl, h2, h3⟩ := rp_lst.mp h
    simp only [D.py]
    exact .lst h2 (dp_ofL h3 (by simpa only [D.pl] using p))
  | .tup xs, _, h, p => by
    obtain ⟨a, vs, rfl, h2, h3⟩ := rp_tup.mp h
    simp only [D.py]
    exact .tup h2 (dp_ofL h3 (by simpa only [D.pl] using p))
  | .dic, _, _, p => by simp [D.pl] at p
  | .obj _ _ _, _, _, p => by simp [D.pl] at p
  | .dct _ _, _, _, p => by simp [D.pl] at p
theorem dp_ofL {H : Hp} : ∀ {ds : List D} {vs : List V}, RpL K H ds vs → D.plL true ds = true → DpAll K H vs (D.pyL ds)
  | [], _, h, _ => by rw [rpl_nil.mp h]; simp only [D.pyL]; exact .nil
  | d :: ds, _, h, p => by
    obtain ⟨v, r, rfl, h2, h3⟩ := rpl_cons.mp h
    simp only [D.plL, Bool.and_eq_true] at p
    simp only [D.pyL]
    exact .cons (dp_of h2 p.1) (dp_ofL h3 p.2)
end
/-- == and != -/
def D.eqOk (d : D) : Prop := d.pl true = true ∧ SeqAt.shaped d.py = true
def D.isS : D → Bool
  | .str _ => true
  | _ => false
/-- both can be compared: two texts of any signs, or data of the usual signs -/
def eqOk2 (x y : D) : Prop := (x.eqOk ∧ y.eqOk) ∨ (x.isS = true ∧ y.isS = true)
def bEq : D → D → (D → Prop) → Prop := fun x y Q => eqOk2 x y ∧ Q (.bl (PyData.eqv x.py y.py))
def bNe : D → D → (D → Prop) → Prop := fun x y Q => eqOk2 x y ∧ Q (.bl (!PyData.eqv x.py y.py))
def rEqS (K : PySem.W.Frag) : R2 := fun x y H Q => rEq x y H Q ∨ rEqD K x y H Q
def rNeS (K : PySem.W.Frag) : R2 := fun x y H Q => rNe x y H Q ∨ rNeD K x y H Q
theorem op_eqS (hu : X.A.units + 64 < cLine) : OpR X (compareOp .Eq) (rEqS X.K) := OpR.or op_eq (op_eqD hu)
theorem op_neS (hu : X.A.units + 64 < cLine) : OpR X (compareOp .NotEq) (rNeS X.K) := OpR.or op_ne (op_neD hu)
theorem isS_str {d : D} (h : d.isS = true) : ∃ x, d = .str x := by cases d <;> first | exact ⟨_, rfl⟩ | cases h
theorem dec_strD {x y : Str} : decide (V.str x = V.str y) = PyData.eqv (D.str x).py (D.str y).py := by
  simp only [D.py, PyData.eqv]
  by_cases h : x = y
  · subst h; rw [beq_self_eq_true]; exact decide_eq_true rfl
  · rw [beq_eq_false_iff_ne.mpr h]; exact decide_eq_false fun e => h (by injection e)
theorem b2_eq : B2 K (rEqS K) bEq := fun J H d e v u Q Q' s rv ru h hq => by
  obtain ⟨⟨⟨h1, h2⟩, ⟨h3, h4⟩⟩ | ⟨h1, h2⟩, q⟩ := h
  · exact .inr ⟨d.py, e.py, dp_of (rv.mono s) h1, dp_of (ru.mono s) h3, h2, h4, hq J H _ _ (Grow.refl s) (rp_b _) q⟩
  · obtain ⟨x, rfl⟩ := isS_str h1
    obtain ⟨y, rfl⟩ := isS_str h2
    rw [rp_str.mp rv, rp_str.mp ru]
    exact .inl ⟨rfl, by rw [dec_strD]; exact hq J H _ _ (Grow.refl s) (rp_b _) q⟩
theorem b2_ne : B2 K (rNeS K) bNe := fun J H d e v u Q Q' s rv ru h hq => by
  obtain ⟨⟨⟨h1, h2⟩, ⟨h3, h4⟩⟩ | ⟨h1, h2⟩, q⟩ := h
  · exact .inr ⟨d.py, e.py, dp_of (rv.mono s) h1, dp_of (ru.mono s) h3, h2, h4, hq J H _ _ (Grow.refl s) (rp_b _) q⟩
  · obtain ⟨x, rfl⟩ := isS_str h1
    obtain ⟨y, rfl⟩ := isS_str h2
    rw [rp_str.mp rv, rp_str.mp ru]
    exact .inl ⟨rfl, by rw [dec_strD]; exact hq J H _ _ (Grow.refl s) (rp_b _) q⟩
end
end VS
/-! VSd: subscripts, slices, membership, built-ins. -/
namespace VS
open PySem PySem.Spec PyProof.Rows L2
section
variable {K : PySem.W.Frag} {X : Cx}
/-! ### subscripts -/
theorem atI_rpl {G : Hp} {xs : List D} {vs : List V} {i : Int} {d : D} (h : RpL K G xs vs) (e : atI xs i = some d) : ∃ v, atI vs i = some v ∧ Rp K G d v := by
  unfold atI at *
  rw [← h.length]
  cases q : ixN xs.length i with
  | none => rw [q] at e; simp at e
  | some j =>
    rw [q] at e
    obtain ⟨v, h1, h2⟩ := h.get (i := j) (d := d) (by simpa using e)
    exact ⟨v, by simpa using h1, h2⟩
def bIx : D → D → (D → Prop) → Prop
  | .lst xs, .int i, Q => ∃ d, atI xs i = some d ∧ Q d
  | .tup xs, .int i, Q => ∃ d, atI xs i = some d ∧ Q d
  | .str x, .int i, Q => x.length ≤ sizeLine ∧ ∃ c, atI x.cps.toList i = some c ∧ Q (.str ⟨#[c]⟩)
  | _, _, _ => False
theorem b2_ix : B2 K (rIx K) bIx := fun J H d e v u Q Q' s rv ru h hq => by
  cases d <;> cases e <;> first | exact h.elim | skip
  · obtain ⟨h0, c, h1, h2⟩ := h
    exact .inr (.inr ⟨_, _, c, rp_str.mp rv, rp_int.mp ru, h0, h1, hq J H _ _ (Grow.refl s) (rp_s _) h2⟩)
  · obtain ⟨c, h1, h2⟩ := h
    obtain ⟨a, vs, rfl, g2, g3⟩ := rp_lst.mp rv
    obtain ⟨w, k1, k2⟩ := atI_rpl g3 h1
    exact .inl ⟨a, vs, _, w, rfl, rp_int.mp ru, s.seq g2, k1, hq J H _ _ (Grow.refl s) k2 h2⟩
  · obtain ⟨c, h1, h2⟩ := h
    obtain ⟨a, vs, rfl, g2, g3⟩ := rp_tup.mp rv
    obtain ⟨w, k1, k2⟩ := atI_rpl g3 h1
    exact .inr (.inl ⟨a, vs, _, w, rfl, rp_int.mp ru, Same.seqT s g2, k1, hq J H _ _ (Grow.refl s) k2 h2⟩)
end
section
variable {X : Cx} {W : WX} {pos p2 : Pos} {a b : Expr}
/-! ### slices -/
abbrev AP := List Sv → (Option Int → List Sv → Prop) → KX → Prop
structure PX (X : Cx) (W : WX) (e : Option Expr) (t : AP) : Prop where
  ex : ∃ T : TO, PO X e T ∧ ∀ P G F ρ σ H (Q : Option Int → List Sv → Prop) (Z : KX) (Q' : Option Int → Hp → Prop), Rel X.K P G F ρ σ H → t ρ Q Z → XIn X W P G F σ Z →
    (∀ G' ρ' H' i, Rel X.K P G' F ρ' σ H' → Same G G' → Q i ρ' → Q' i H') → T σ H Q'
def aNoP : AP := fun ρ Q _ => Q none ρ
def aPart (t : AE) : AP := fun ρ Q Z => t ρ (fun d ρ1 => ∃ i, d = .int i ∧ Q (some i) ρ1) Z
theorem px_no : PX X W none aNoP := ⟨_, po_none, fun P G F ρ σ H Q Z Q' R h _ hq => hq G ρ H _ R (Same.refl _) h⟩
theorem px_some {t : AE} (h : EX X W a t) : PX X W (some a) (aPart t) := by
  obtain ⟨T, p, r⟩ := h.ex
  refine ⟨_, po_some p, fun P G F ρ σ H Q Z Q' R h hz hq => r P G F ρ σ H _ Z _ R h hz fun G1 ρ1 H1 v d R1 s1 rv ⟨i, e, q⟩ => ?_⟩
  subst e
  exact ⟨i, rp_int.mp rv, hq G1 ρ1 H1 _ R1 s1 q⟩
/-- the part of a list -/
def cutD (xs : List D) (lo hi : Option Int) : List D := (xs.drop (HT.sIx xs.length 0 lo)).take (HT.sIx xs.length xs.length hi - HT.sIx xs.length 0 lo)
theorem cut_rpl {K : PySem.W.Frag} {G : Hp} {xs : List D} {vs : List V} (h : RpL K G xs vs) (lo hi : Option Int) : RpL K G (cutD xs lo hi) (cutV vs lo hi) := by
  unfold cutD cutV
  rw [← h.length]
  exact (h.drop _).take _
def oSl (te : AE) (tl th : AP) : AO := fun ρ Q Z => te ρ (fun d ρ1 => tl ρ1 (fun l ρ2 => th ρ2 (fun u ρ3 => ∃ xs, d = .lst xs ∧ Q (cutD xs l u) ρ3) Z) Z) Z
/-- .. of a tuple (not the whole), a text, a list that is data -/
def aSl (te : AE) (tl th : AP) : AE := fun ρ Q Z => te ρ (fun d ρ1 => tl ρ1 (fun l ρ2 => th ρ2 (fun u ρ3 => match d with
  | .str x => x.length ≤ sizeLine ∧ Q (.str (cutS x l u)) ρ3
  | .lst xs => Q (.lst (cutD xs l u)) ρ3
  | .tup xs => ¬ (HT.sIx xs.length 0 l = 0 ∧ HT.sIx xs.length xs.length u = xs.length) ∧ Q (.tup (cutD xs l u)) ρ3
  | _ => False) Z) Z) Z
theorem e_slice {lo hi : Option Expr} {te : AE} {tl th : AP} (he : EX X W a te) (hl : PX X W lo tl) (hu : PX X W hi th) : EX X W (.Subscript a (.Slice lo hi none p2) pos) (aSl te tl th) := by
  obtain ⟨T, p, r⟩ := he.ex
  obtain ⟨T1, p1, r1⟩ := hl.ex
  obtain ⟨T2, p2, r2⟩ := hu.ex
  refine ⟨_, pe_slice (SlR.or sl_list (SlR.or sl_tup sl_str)) p p1 p2, fun P G F ρ σ H Q Z Q' R h hz hq => ?_⟩
  refine r P G F ρ σ H _ Z _ R h hz fun G1 ρ1 H1 v d R1 s1 rv q1 => ?_
  refine r1 P G1 F ρ1 σ H1 _ Z _ R1 q1 (hz.mono s1) fun G2 ρ2 H2 l R2 s2 q2 => ?_
  refine r2 P G2 F ρ2 σ H2 _ Z _ R2 q2 (hz.mono (s1.trans s2)) fun G3 ρ3 H3 u R3 s3 q3 => ?_
  have rv := rv.mono (s2.trans s3)
  have s' := (s1.trans s2).trans s3
  cases d <;> first | exact q3.elim | skip
  · exact .inr (.inr ⟨_, rp_str.mp rv, q3.1, hq G3 ρ3 H3 _ _ R3 s' (rp_s _) q3.2⟩)
  · obtain ⟨b, vs, rfl, g2, g3⟩ := rp_lst.mp rv
    refine .inl ⟨b, vs, rfl, R3.sg.seq g2, fun p hp => ?_⟩
    have g := Grow.new (o := .lst (cutV vs l u)) R3.sg hp
    exact hq _ ρ3 _ _ _ (R3.grow g) (s'.trans g.j) (rp_lst.mpr ⟨p, _, rfl, SqL.of upd_same, (cut_rpl g3 l u).mono g.j⟩) q3
  · obtain ⟨b, vs, rfl, g2, g3⟩ := rp_tup.mp rv
    refine .inr (.inl ⟨b, vs, rfl, Same.seqT R3.sg g2, by rw [← g3.length]; exact q3.1, fun p hp => ?_⟩)
    have g := Grow.new (o := .tup (cutV vs l u)) R3.sg hp
    exact hq _ ρ3 _ _ _ (R3.grow g) (s'.trans g.j) (rp_tup.mpr ⟨p, _, rfl, SqT.of upd_same, (cut_rpl g3 l u).mono g.j⟩) q3.2
/-! ### in, not in -/
def D.eqF : D → D → Bool
  | .non, .non => true
  | .bl a, .bl b => a == b
  | .bl a, .int b => (if a then 1 else 0) == b
  | .int a, .bl b => a == (if b then 1 else 0)
  | .int a, .int b => a == b
  | .str a, .str b => a == b
  | _, _ => false
def bIn (neg : Bool) : D → D → (D → Prop) → Prop
  | x, .lst ys, Q => x.flat = true ∧ ys.all D.flat = true ∧ Q (.bl (if neg then !(ys.any fun y => D.eqF y x) else ys.any fun y => D.eqF y x))
  | x, .tup ys, Q => x.flat = true ∧ ys.all D.flat = true ∧ Q (.bl (if neg then !(ys.any fun y => D.eqF y x) else ys.any fun y => D.eqF y x))
  | .str i, .str j, Q => Q (.bl (if neg then !(!(Builtin.Str.occurrences j i 0 j.length 1).isEmpty) else !(Builtin.Str.occurrences j i 0 j.length 1).isEmpty))
  | _, _, _ => False
end
/-! ### built-ins -/
section
variable {X : Cx} {K : PySem.W.Frag}
theorem rpl1 {G : Hp} {d : D} {vs : List V} (h : RpL K G [d] vs) : ∃ v, vs = [v] ∧ Rp K G d v := by
  obtain ⟨v, r, rfl, h2, h3⟩ := rpl_cons.mp h
  rw [rpl_nil.mp h3]
  exact ⟨v, rfl, h2⟩
theorem rpl2 {G : Hp} {d e : D} {vs : List V} (h : RpL K G [d, e] vs) : ∃ v u, vs = [v, u] ∧ Rp K G d v ∧ Rp K G e u := by
  obtain ⟨v, r, rfl, h2, h3⟩ := rpl_cons.mp h
  obtain ⟨u, rfl, h4⟩ := rpl1 h3
  exact ⟨v, u, rfl, h2, h4⟩
def bLen : List D → (D → Prop) → Prop
  | [.str x], Q => x.length ≤ sizeLine ∧ Q (.int x.length)
  | [.lst xs], Q => Q (.int xs.length)
  | [.tup xs], Q => Q (.int xs.length)
  | _, _ => False
theorem bn_len : BN K (fun xs H Q => ∃ x n, xs = [x] ∧ LenV K x H n ∧ Q (.int n) H) bLen := fun J H ds vs Q Q' s rs h hq => by
  unfold bLen at h
  split at h
  · obtain ⟨v, rfl, rv⟩ := rpl1 rs
    exact ⟨v, _, rfl, by rw [rp_str.mp rv]; exact ⟨h.1, rfl⟩, hq J H _ _ (Grow.refl s) (rp_i _) h.2⟩
  · obtain ⟨v, rfl, rv⟩ := rpl1 rs
    obtain ⟨a, us, rfl, g2, g3⟩ := rp_lst.mp rv
    exact ⟨_, _, rfl, .inl ⟨us, s.seq g2, g3.length⟩, hq J H _ _ (Grow.refl s) (rp_i _) h⟩
  · obtain ⟨v, rfl, rv⟩ := rpl1 rs
    obtain ⟨a, us, rfl, g2, g3⟩ := rp_tup.mp rv
    exact ⟨_, _, rfl, .inr ⟨us, Same.seqT s g2, g3.length⟩, hq J H _ _ (Grow.refl s) (rp_i _) h⟩
  · exact h.elim
def bOrdC : List D → (D → Prop) → Prop
  | [.str x], Q => x.length = 1 ∧ Q (.int (x.cps.getD 0 0 : Nat))
  | _, _ => False
theorem bn_ord : BN K (fun xs H Q => ∃ x, xs = [.str x] ∧ x.length = 1 ∧ Q (.int (x.cps.getD 0 0 : Nat)) H) bOrdC := fun J H ds vs Q Q' s rs h hq => by
  unfold bOrdC at h
  split at h
  · obtain ⟨v, rfl, rv⟩ := rpl1 rs
    exact ⟨_, by rw [rp_str.mp rv], h.1, hq J H _ _ (Grow.refl s) (rp_i _) h.2⟩
  · exact h.elim
def bInt : List D → (D → Prop) → Prop
  | [.int i], Q => Q (.int i)
  | [.bl k], Q => Q (.int (if k then 1 else 0))
  | _, _ => False
theorem bn_int : BN K (fun xs H Q => (∃ i, xs = [.int i] ∧ Q (.int i) H) ∨ ∃ k, xs = [.bl k] ∧ Q (.int (if k then 1 else 0)) H) bInt := fun J H ds vs Q Q' s rs h hq => by
  unfold bInt at h
  split at h
  · obtain ⟨v, rfl, rv⟩ := rpl1 rs
    exact .inl ⟨_, by rw [rp_int.mp rv], hq J H _ _ (Grow.refl s) (rp_i _) h⟩
  · obtain ⟨v, rfl, rv⟩ := rpl1 rs
    exact .inr ⟨_, by rw [rp_bl.mp rv], hq J H _ _ (Grow.refl s) (rp_i _) h⟩
  · exact h.elim
theorem bn_ii {f : Int → Int → Int} {β : List D → (D → Prop) → Prop} (hβ : ∀ ds Q, β ds Q → ∃ i j, ds = [.int i, .int j] ∧ Q (.int (f i j))) : BN K (fun xs H Q => ∃ i j, xs = [.int i, .int j] ∧ Q (.int (f i j)) H) β := fun J H ds vs Q Q' s rs h hq => by
  obtain ⟨i, j, rfl, q⟩ := hβ ds Q h
  obtain ⟨v, u, rfl, rv, ru⟩ := rpl2 rs
  exact ⟨i, j, by rw [rp_int.mp rv, rp_int.mp ru], hq J H _ _ (Grow.refl s) (rp_i _) q⟩
def bMin : List D → (D → Prop) → Prop
  | [.int i, .int j], Q => Q (.int (if j < i then j else i))
  | _, _ => False
def bAbs : List D → (D → Prop) → Prop
  | [.int i], Q => Q (.int (if i < 0 then -i else i))
  | _, _ => False
theorem bn_min : BN K (fun xs H Q => ∃ i j, xs = [.int i, .int j] ∧ Q (.int (if j < i then j else i)) H) bMin := bn_ii (f := fun i j => if j < i then j else i) fun ds Q h => by
  unfold bMin at h
  split at h
  · exact ⟨_, _, rfl, h⟩
  · exact h.elim
theorem bn_abs : BN K (fun xs H Q => ∃ i, xs = [.int i] ∧ Q (.int (if i < 0 then -i else i)) H) bAbs := fun J H ds vs Q Q' s rs h hq => by
  unfold bAbs at h
  split at h
  · obtain ⟨v, rfl, rv⟩ := rpl1 rs
    exact ⟨_, by rw [rp_int.mp rv], hq J H _ _ (Grow.refl s) (rp_i _) h⟩
  · exact h.elim
/-- all the items are ints -/
def intsOf : List D → Option (List Int)
  | [] => some []
  | .int i :: r => (intsOf r).map (i :: ·)
  | _ => none
def blsOf : List D → Option (List Bool)
  | [] => some []
  | .bl i :: r => (blsOf r).map (i :: ·)
  | _ => none
theorem blsOf_eq : ∀ {ds : List D} {ns : List Bool}, blsOf ds = some ns → ds = ns.map D.bl
  | [], ns, h => by simp [blsOf] at h; subst h; rfl
  | .bl i :: r, ns, h => by
    simp only [blsOf] at h
    cases q : blsOf r with
    | none => rw [q] at h; simp at h
    | some m =>
      rw [q] at h
      simp at h
      rw [← h, blsOf_eq q]
      rfl
  | .non :: _, _, h | .int _ :: _, _, h | .str _ :: _, _, h | .lst _ :: _, _, h | .tup _ :: _, _, h | .dic :: _, _, h | .dct _ _ :: _, _, h | .obj _ _ _ :: _, _, h => by simp [blsOf] at h
theorem blsOf_map : ∀ ns : List Bool, blsOf (ns.map D.bl) = some ns
  | [] => rfl
  | n :: ns => by simp [blsOf, blsOf_map ns]
def bSum : List D → (D → Prop) → Prop
  | [.lst xs], Q => ∃ ns, intsOf xs = some ns ∧ Q (.int ns.sum)
  | _, _ => False
def bAll : List D → (D → Prop) → Prop
  | [.lst xs], Q => ∃ ns, blsOf xs = some ns ∧ Q (.bl (ns.all id))
  | _, _ => False
theorem bn_all : BN K (rAll K) bAll := fun J H ds vs Q Q' s rs h hq => by
  unfold bAll at h
  split at h
  · obtain ⟨ns, e, q⟩ := h
    obtain ⟨v, rfl, rv⟩ := rpl1 rs
    obtain ⟨a, us, rfl, g2, g3⟩ := rp_lst.mp rv
    rw [blsOf_eq e] at g3
    exact ⟨a, ns, rfl, by rw [← g3.unbls]; exact s.seq g2, hq J H _ _ (Grow.refl s) (rp_b _) q⟩
  · exact h.elim
def bAny : List D → (D → Prop) → Prop
  | [.lst xs], Q => ∃ ns, blsOf xs = some ns ∧ Q (.bl (ns.any id))
  | _, _ => False
/-- tuple(x) -/
def bTuple : List D → (D → Prop) → Prop
  | [.lst xs], Q => Q (.tup xs)
  | [.tup xs], Q => Q (.tup xs)
  | _, _ => False
theorem bn_tuple : BN K (fun xs H Q => ∃ p ys, xs = [.ref p] ∧ ((SqL K H p ys ∧ ∀ l, H l = none → Q (.ref l) (upd H l (.tup ys))) ∨ (SqT K H p ys ∧ Q (.ref p) H))) bTuple := fun J H ds vs Q Q' s rs h hq => by
  unfold bTuple at h
  split at h
  · obtain ⟨v, rfl, rv⟩ := rpl1 rs
    obtain ⟨a, us, rfl, g2, g3⟩ := rp_lst.mp rv
    refine ⟨a, us, rfl, .inl ⟨s.seq g2, fun l hl => ?_⟩⟩
    have g := Grow.new (o := .tup us) s hl
    exact hq _ _ _ _ g (rp_tup.mpr ⟨l, us, rfl, SqT.of upd_same, g3.mono g.j⟩) h
  · obtain ⟨v, rfl, rv⟩ := rpl1 rs
    obtain ⟨a, us, rfl, g2, g3⟩ := rp_tup.mp rv
    exact ⟨a, us, rfl, .inr ⟨Same.seqT s g2, hq J H _ _ (Grow.refl s) rv h⟩⟩
  · exact h.elim
end
end VS
/-! VSe: isinstance, repr, len and the like as one-line rules. -/
namespace VS
open PySem PySem.Spec PyProof.Rows L2
/-- what every body knows of its surroundings: room for k calls, nothing is being shown, the table of modules stands in the base -/
structure Run (k : Nat) (X : Cx) : Prop where
  hr : Room k X.A
  hg : X.A.guards = some []
  hs : ∃ o es ep, X.base.get? sysModules = some o ∧ o.data = .dict es ep
theorem Run.mono {j k : Nat} {X : Cx} (r : Run k X) (h : j ≤ k) : Run j X := ⟨r.hr.mono h, r.hg, r.hs⟩
/-! ### isinstance -/
def D.kind : D → String
  | .non => "NoneType"
  | .bl _ => "bool"
  | .int _ => "int"
  | .str _ => "str"
  | .lst _ => "list"
  | .tup _ => "tuple"
  | .dic => "dict"
  | .dct _ _ => "dict"
  | .obj _ _ _ => "object"
def isTy (T : String) : D → Bool
  | .non => false
  | .bl _ => T == "bool" || T == "int"
  | .int _ => T == "int"
  | .str _ => T == "str"
  | .lst _ => T == "list"
  | .tup _ => T == "tuple"
  | .dic => false
  | .dct _ _ => false
  | .obj _ _ _ => false
def okTy (T : String) : Bool := ["int", "bool", "str", "list", "tuple"].contains T
theorem okTy_cases {T : String} (h : okTy T = true) : T = "int" ∨ T = "bool" ∨ T = "str" ∨ T = "list" ∨ T = "tuple" := by
  simpa [okTy] using h
theorem kit_kind {d : D} {T : String} (h : okTy T = true) (ho : ∀ C ns xs, d ≠ .obj C ns xs) : kitB d.kind T = some (isTy T d) := by
  rcases okTy_cases h with rfl | rfl | rfl | rfl | rfl <;> cases d <;> first
    | exact absurd rfl (ho _ _ _)
    | (simp only [D.kind, isTy]; decide +kernel)
section
variable {K : PySem.W.Frag}
theorem ty_of {H : Hp} {d : D} {v : V} (h : Rp K H d v) (ho : ∀ C ns xs, d ≠ .obj C ns xs) : TyX K H v (.type d.kind) := by
  cases d with
  | non => rw [rp_non.mp h]; exact .base .non
  | bl b => rw [rp_bl.mp h]; exact .base (.bl b)
  | int i => rw [rp_int.mp h]; exact .base (.int i)
  | str x => rw [rp_str.mp h]; exact .base (.str x)
  | lst xs =>
    obtain ⟨a, vs, rfl, h2, _⟩ := rp_lst.mp h
    rcases h2 with (e | ⟨o, e⟩) | ⟨o, its, n, e, c, _⟩
    · exact .base (.lst e)
    · exact .base (.frz e)
    · exact .kList e c
  | tup xs =>
    obtain ⟨a, vs, rfl, h2, _⟩ := rp_tup.mp h
    rcases h2 with (e | ⟨o, e⟩) | ⟨o, its, n, e, c, _⟩
    · exact .base (.tup e)
    · exact .fTuple e
    · exact .kTuple e c
  | dic =>
    obtain ⟨a, rfl, h2⟩ := rp_dic.mp h
    exact .base (.dK h2)
  | dct ks xs =>
    obtain ⟨a, vs, rfl, _, _, h2⟩ := rp_dct.mp h
    exact .base (.dK h2)
  | obj C ns xs => exact absurd rfl (ho _ _ _)
def D.noObj : D → Prop
  | .obj _ _ _ => False
  | _ => True
theorem D.noObj.ne {d : D} (h : d.noObj) : ∀ C ns xs, d ≠ .obj C ns xs := fun C ns xs e => by subst e; exact h
end
section
variable {X : Cx} {W : WX} {pos p q1 : Pos} {a : Expr} {va : AV}
def vIsi (T : String) (va : AV) : AV := fun ρ Q => va ρ fun d => d.noObj ∧ Q (.bl (isTy T d))
theorem v_isi {T : String} {y : Str} (hT : okTy T = true) (hg : Gl X "isinstance") (hm : X.mg "isinstance" = none) (gT : Gl X y) (mT : X.mg y = none) (bT : bootBuiltins y = some (.type T)) (ea : VW X a va)
    (nT : y ≠ "__name__" := by decide) (dT : (y == ("__debug__" : Str)) = false := by decide)
    (he : starEach [a, .Name y q1] X.env = (false, eval a X.env) :: starEach [.Name y q1] X.env := by rfl) (hpl : (backTo pos (starEach [.Name y q1] X.env)).any (·.1) = false := by rfl) : VW X (.Call (.Name "isinstance" p) [a, .Name y q1] [] pos) (vIsi T va) := by
  obtain ⟨Ta, pa, ra⟩ := ea.ex
  have pT : PE X (.Name y q1) (tC (.ty T)) := pe_bltn gT mT bT rfl nT dT
  refine ⟨_, pe_callB call_isi hg hm (by decide +kernel) (pa_cons pa (pa_cons pT pa_nil) he) (by decide) (by decide) he hpl, fun P G F ρ σ H Q Q' R h hq => ?_⟩
  refine ra P G F ρ σ H _ _ R h fun G1 H1 v d R1 s1 k1 rv ⟨h1, h2⟩ => ?_
  exact ⟨v, .ty T, _, _, _, rfl, .ty T, ty_of rv h1.ne, kit_ty (kit_kind hT h1.ne), hq G1 H1 _ _ R1 s1 k1 (rp_b _) h2⟩
def vIsi2 (T U : String) (va : AV) : AV := fun ρ Q => va ρ fun d => d.noObj ∧ Q (.bl (isTy T d || isTy U d))
theorem v_isi2 {T U : String} {y z : Str} {q2 q3 : Pos} {j : Nat} (hT : okTy T = true) (hU : okTy U = true) (hg : Gl X "isinstance") (hm : X.mg "isinstance" = none) (gT : Gl X y) (mT : X.mg y = none) (bT : bootBuiltins y = some (.type T)) (gU : Gl X z) (mU : X.mg z = none) (bU : bootBuiltins z = some (.type U)) (ea : VW X a va)
    (nT : y ≠ "__name__" := by decide) (dT : (y == ("__debug__" : Str)) = false := by decide) (nU : z ≠ "__name__" := by decide) (dU : (z == ("__debug__" : Str)) = false := by decide)
    (he : starEach [a, .Tuple [.Name y q1, .Name z q2] j q3] X.env = (false, eval a X.env) :: starEach [.Tuple [.Name y q1, .Name z q2] j q3] X.env := by rfl) (hpl : (backTo pos (starEach [.Tuple [.Name y q1, .Name z q2] j q3] X.env)).any (·.1) = false := by rfl) : VW X (.Call (.Name "isinstance" p) [a, .Tuple [.Name y q1, .Name z q2] j q3] [] pos) (vIsi2 T U va) := by
  obtain ⟨Ta, pa, ra⟩ := ea.ex
  have pT : PE X (.Name y q1) (tC (.ty T)) := pe_bltn gT mT bT rfl nT dT
  have pU : PE X (.Name z q2) (tC (.ty U)) := pe_bltn gU mU bU rfl nU dU
  refine ⟨_, pe_callB call_isiT hg hm (by decide +kernel) (pa_cons pa (pa_cons (pe_tup (pa_cons pT (pa_cons pU pa_nil))) pa_nil) he) (by decide) (by decide) he hpl, fun P G F ρ σ H Q Q' R h hq => ?_⟩
  refine ra P G F ρ σ H _ _ R h fun G1 H1 v d R1 s1 k1 rv ⟨h1, h2⟩ => ?_
  refine ⟨by show 2 ≤ sizeLine; decide, fun t ht => ?_⟩
  have g := Grow.new (o := .tup [.ty T, .ty U]) (Same.refl H1) ht
  refine ⟨v, t, [.ty T, .ty U], .type d.kind, [.type T, .type U], isTy T d || isTy U d, rfl, upd_same, .cons (.ty T) (.cons (.ty U) .nil), ty_of (rv.mono g.h) h1.ne, ?_, hq G1 _ _ _ (R1.growV g) s1 (k1.trans g.h) (rp_b _) h2⟩
  refine kitAny_cons (kit_ty (kit_kind hT h1.ne)) (fun e => ?_) (fun e => by rw [e]; rfl)
  refine kitAny_cons (kit_ty (kit_kind hU h1.ne)) (fun e2 => ?_) (fun e2 => by rw [e2, Bool.or_true])
  rw [e, e2]
  rfl
end
/-! ### repr -/
section
variable {X : Cx} {pins : List (Addr × Obj)} {σ : St} {H : Hp} {s : Shared}
mutual
theorem Rp.reads (I : Inv X pins σ H s) (hs : ∃ o es ep, X.base.get? sysModules = some o ∧ o.data = .dict es ep) : ∀ (d : D) (v : V) (u : Value), Rp X.K H d v → d.pl false = true → RelV v u → ∃ as, Reads s.heap u d.py as ∧ sysModules ∉ as
  | .non, _, _, h, _, r => by
    rw [rp_non.mp h] at r
    cases r
    simp only [D.py]
    exact ⟨_, Reads.none, by simp⟩
  | .bl b, _, _, h, _, r => by
    rw [rp_bl.mp h] at r
    cases r
    simp only [D.py]
    exact ⟨_, Reads.bool b, by simp⟩
  | .int i, _, _, h, _, r => by
    rw [rp_int.mp h] at r
    obtain ⟨t, rfl⟩ := r
    simp only [D.py]
    exact ⟨_, Reads.int i t, by simp⟩
  | .str x, _, _, h, _, r => by
    rw [rp_str.mp h] at r
    obtain ⟨t, rfl⟩ := r
    simp only [D.py]
    exact ⟨_, Reads.str x t, by simp⟩
  | .lst xs, _, _, h, p, r => by
    obtain ⟨a, vs, rfl, h2, h3⟩ := rp_lst.mp h
    cases r
    obtain ⟨its, rv, ⟨o, n, ho, hc, hdd, hd⟩, _⟩ := I.list h2
    obtain ⟨as, q1, q2⟩ := RpL.reads I hs xs vs its h3 (by simpa only [D.pl] using p) rv
    simp only [D.py]
    refine ⟨_, Reads.list ho hc hd q1, fun hm => ?_⟩
    rcases List.mem_cons.mp hm with e | e
    · obtain ⟨ob, es, ep, hb, hbd⟩ := hs
      subst e
      obtain ⟨z1, z2⟩ := I.bs _ _ hb
      rcases h2 with (e | ⟨o, e⟩) | ⟨o', its', n', e, c, _⟩
      · rw [z2] at e; cases e
      · rw [z2] at e; cases e
      · have z3 := I.kIn _ _ e
        rw [z1] at ho
        cases ho
        rw [hbd] at hd
        cases hd
    · exact q2 e
  | .tup xs, _, _, h, p, r => by
    obtain ⟨a, vs, rfl, h2, h3⟩ := rp_tup.mp h
    cases r
    obtain ⟨its, rv, ⟨o, ho, hc, n, hd⟩, _⟩ := I.tuple h2
    obtain ⟨as, q1, q2⟩ := RpL.reads I hs xs vs its h3 (by simpa only [D.pl] using p) rv
    simp only [D.py]
    exact ⟨_, Reads.tuple ho hc hd q1, q2⟩
  | .dic, _, _, h, _, r => by
    obtain ⟨a, rfl, h2⟩ := rp_dic.mp h
    cases r
    obtain ⟨_, hne, vs, rk, ob, es, ep, e1, e2, e3, _, e4, _⟩ := I.hok a _ h2
    cases rk
    have e5 : es.toList = [] := by cases h : es.toList with
      | nil => rfl
      | cons x y => rw [h] at e4; cases e4
    simp only [D.py]
    refine ⟨[a] ++ [], Reads.dict (kvs := []) e1 e2.1 e3 (by rw [e5]; exact .nil) (by rw [e5]; exact .nil), ?_⟩
    simp only [List.append_nil, List.mem_singleton]
    intro z
    subst z
    simp at hne
  | .obj _ _ _, _, _, _, p, _ => by simp [D.pl] at p
  | .dct _ _, _, _, _, p, _ => by simp [D.pl] at p
theorem RpL.reads (I : Inv X pins σ H s) (hs : ∃ o es ep, X.base.get? sysModules = some o ∧ o.data = .dict es ep) : ∀ (ds : List D) (vs : List V) (us : List Value), RpL X.K H ds vs → D.plL false ds = true → Vals vs us → ∃ as, ReadsAll s.heap us (D.pyL ds) as ∧ sysModules ∉ as
  | [], _, _, h, _, r => by
    rw [rpl_nil.mp h] at r
    cases r
    simp only [D.pyL]
    exact ⟨_, ReadsAll.nil, by simp⟩
  | d :: ds, _, _, h, p, r => by
    obtain ⟨v, w, rfl, h2, h3⟩ := rpl_cons.mp h
    cases r with
    | cons r1 r2 =>
      simp only [D.plL, Bool.and_eq_true] at p
      obtain ⟨as, q1, n1⟩ := Rp.reads I hs d _ _ h2 p.1 r1
      obtain ⟨bs, q2, n2⟩ := RpL.reads I hs ds _ _ h3 p.2 r2
      simp only [D.pyL]
      exact ⟨_, ReadsAll.cons q1 q2, fun hm => (List.mem_append.mp hm).elim n1 n2⟩
end
theorem d_ref {K : PySem.W.Frag} {G : Hp} {d : D} {v : V} (h : Rp K G d v) (f : d.flat = false) (p : d.pl false = true) : ∃ a, v = .ref a := by
  cases d <;> first | cases f | skip
  · obtain ⟨a, vs, rfl, _⟩ := rp_lst.mp h; exact ⟨a, rfl⟩
  · obtain ⟨a, vs, rfl, _⟩ := rp_tup.mp h; exact ⟨a, rfl⟩
  · obtain ⟨a, rfl, _⟩ := rp_dic.mp h; exact ⟨a, rfl⟩
  · simp [D.pl] at p
  · simp [D.pl] at p
/-- repr(x) -/
def D.shOk (d : D) : Prop := d.pl false = true ∧ d.py.showable = true ∧ d.py.shown.length ≤ sizeLine ∧ d.py.depth ≤ 60
def rRepr (K : PySem.W.Frag) : List V → Hp → VK → Prop := fun vs H Q => ∃ d v, vs = [v] ∧ Rp K H d v ∧ d.shOk ∧ Q (.str d.py.shown) H
theorem call_repr {k : Nat} (rn : Run k X) : CallR X (.builtin "repr") (rRepr X.K) := by
  intro pins s σ H xs us Q I r ⟨d, v, e, rv, ⟨h1, h2, h3, h4⟩, q⟩
  subst e
  obtain ⟨u, rfl, ru⟩ := Vals.one r
  have hu := rn.hr.units
  cases hf : d.flat with
  | true =>
    cases d <;> first | cases hf | skip
    · rw [rp_non.mp rv] at ru
      cases ru
      exact PySem.P.repr_of_none ⟨.str _, H, I.tok _, ⟨_, rfl⟩, by simpa [D.py, PyData.shown] using q⟩
    · rename_i b
      rw [rp_bl.mp rv] at ru
      cases ru
      exact PySem.P.repr_of_bool ⟨.str _, H, I.tok _, ⟨_, rfl⟩, by simpa [D.py, PyData.shown] using q⟩
    · rw [rp_int.mp rv] at ru
      obtain ⟨t, rfl⟩ := ru
      exact PySem.P.repr_of_int (by simpa [D.py, PyData.showable] using h2) ⟨.str _, H, I.tok _, ⟨_, rfl⟩, by simpa [D.py, PyData.shown] using q⟩
    · rw [rp_str.mp rv] at ru
      obtain ⟨t, rfl⟩ := ru
      exact PySem.P.repr_of_str ⟨.str _, H, I.tok _, ⟨_, rfl⟩, by simpa [D.py, PyData.shown] using q⟩ (by simpa [D.py, PyData.shown] using h3)
  | false =>
    obtain ⟨a, rfl⟩ := d_ref rv hf h1
    obtain ⟨as, rd, hn⟩ := Rp.reads I rn.hs d _ _ rv h1 ru
    cases ru
    refine repr_of_reads' rd h2 (fun _ => hn) rn.hg (by omega) (fun _ _ e => e) (fun h' u tk kp => ?_) h3
    exact ⟨.str _, H, I.kept (t' := tk) kp, ⟨u, rfl⟩, q⟩
def bRepr : List D → (D → Prop) → Prop
  | [d], Q => d.shOk ∧ Q (.str d.py.shown)
  | _, _ => False
theorem bn_repr {K : PySem.W.Frag} : BN K (rRepr K) bRepr := fun J H ds vs Q Q' s rs h hq => by
  unfold bRepr at h
  split at h
  · obtain ⟨v, rfl, rv⟩ := rpl1 rs
    exact ⟨_, v, rfl, rv.mono s, h.1, hq J H _ _ (Grow.refl s) (rp_s _) h.2⟩
  · exact h.elim
end
end VS
/-! VSf: statements, targets, loops, comprehensions. -/
namespace VS
open PySem PySem.Spec PyProof.Rows L2
/-! ### stores -/
/-- slot i may be stored: it is no list that the caller lent -/
def okSet (ρ : List Sv) (i : Nat) : Prop := match ρ[i]? with
  | some (.own true _) => False
  | none => False
  | _ => True
section
variable {K : PySem.W.Frag} {P : List (Nat × Addr)} {G F G' : Hp} {ρ : List Sv} {σ : St} {H H' : Hp}
theorem okSet.lt {i : Nat} (h : okSet ρ i) : i < ρ.length := by
  unfold okSet at h
  cases e : ρ[i]? with
  | none => rw [e] at h; exact h.elim
  | some s => exact (List.getElem?_eq_some_iff.mp e).1
theorem okSet.nio {i : Nat} (h : okSet ρ i) (xs : List D) : ρ[i]? ≠ some (.own true xs) := fun e => by
  unfold okSet at h
  rw [e] at h
  exact h
theorem set_ne {α : Type} {l : List α} {i j : Nat} {x : α} (h : j ≠ i) : (l.set i x)[j]? = l[j]? := List.getElem?_set_ne fun z => h z.symm
theorem set_eq {α : Type} {l : List α} {i : Nat} {x : α} (h : i < l.length) : (l.set i x)[i]? = some x := List.getElem?_set_self h
/-- slot i holds no tree behind a store of another kind -/
theorem noTre {ρ : List Sv} {i j : Nat} {s : Sv} {t : Tr} (hs : ∀ t, s ≠ .tre t) (q : (ρ.set i s)[j]? = some (.tre t)) : j ≠ i ∧ ρ[j]? = some (.tre t) := by
  rcases get_set q with ⟨_, z⟩ | ⟨hj, q⟩
  · exact absurd z.symm (hs t)
  · exact ⟨hj, q⟩
theorem noOwnS {ρ : List Sv} {i j : Nat} {s : Sv} {b : Bool} {ys : List D} (hs : ∀ b ys, s ≠ .own b ys) (q : (ρ.set i s)[j]? = some (.own b ys)) : j ≠ i ∧ ρ[j]? = some (.own b ys) := by
  rcases get_set q with ⟨_, z⟩ | ⟨hj, q⟩
  · exact absurd z.symm (hs b ys)
  · exact ⟨hj, q⟩
/-- a slot is changed that then holds no list of its own -/
theorem TrOk.setN {s : Sv} {i : Nat} {x : Option V} (T : TrOk K G F ρ σ H) (hs : ∀ b ys, s ≠ .own b ys) (ht : ∀ t, s ≠ .tre t) : TrOk K G F (ρ.set i s) (σ.set i x) H :=
  T.step (fun j t q => by
    obtain ⟨hj, q⟩ := noTre ht q
    exact ⟨q, by rw [set_ne hj]⟩) (Same.refl _) (fun j t a q ha => by
    obtain ⟨_, g2, g3⟩ := T.ex (noTre ht q).2 ha
    exact ⟨rfl, g2, g3⟩) fun j c ys a k t q1 q2 q3 => by
    obtain ⟨hj, q1⟩ := noOwnS hs q1
    rw [set_ne hj] at q2
    exact T.own k t j c ys a (noTre ht q3).2 q1 q2
theorem TrOk.setN' {s : Sv} {i : Nat} (T : TrOk K G F ρ σ H) (hs : ∀ b ys, s ≠ .own b ys) (ht : ∀ t, s ≠ .tre t) : TrOk K G F (ρ.set i s) σ H :=
  T.step (fun j t q => ⟨(noTre ht q).2, rfl⟩) (Same.refl _) (fun j t a q ha => by
    obtain ⟨_, g2, g3⟩ := T.ex (noTre ht q).2 ha
    exact ⟨rfl, g2, g3⟩) fun j c ys a k t q1 q2 q3 => T.own k t j c ys a (noTre ht q3).2 (noOwnS hs q1).2 q2
/-- a slot holds data -/
theorem Rel.setD (R : Rel K P G F ρ σ H) {i : Nat} (ok : okSet ρ i) {d : D} {v : V} (rv : Rp K G d v) : Rel K P G F (ρ.set i (.dat d)) (σ.set i (some v)) H := by
  have hl : i < σ.length := by rw [← R.len]; exact ok.lt
  refine ⟨by rw [List.length_set, List.length_set]; exact R.len, R.sg, R.sf, R.gf, fun j e q => ?_, fun j b ys q => ?_, fun j k a b ys c zs q1 q2 q3 q4 => ?_, fun p hp => ?_, fun j ys q => ?_, R.tr.setN (fun _ _ z => by cases z) fun _ z => by cases z⟩
  · rcases get_set q with ⟨rfl, z⟩ | ⟨hj, q⟩
    · cases z
      exact ⟨v, set_eq hl, rv⟩
    · rw [set_ne hj]
      exact R.dat j e q
  · rcases get_set q with ⟨rfl, z⟩ | ⟨hj, q⟩
    · cases z
    · rw [set_ne hj]
      exact R.own j b ys q
  · rcases get_set q1 with ⟨_, z⟩ | ⟨hj, q1⟩
    · cases z
    rcases get_set q2 with ⟨_, z⟩ | ⟨hk, q2⟩
    · cases z
    rw [set_ne hj] at q3
    rw [set_ne hk] at q4
    exact R.ne j k a b ys c zs q1 q2 q3 q4
  · obtain ⟨g1, zs, g2⟩ := R.pin p hp
    have hne : p.1 ≠ i := fun z => ok.nio zs (by rw [← z]; exact g2)
    exact ⟨by rw [set_ne hne]; exact g1, zs, by rw [set_ne hne]; exact g2⟩
  · rcases get_set q with ⟨_, z⟩ | ⟨_, q⟩
    · cases z
    · exact R.pinc j ys q
/-- a slot holds a list of its own -/
theorem Rel.setO (R : Rel K P G F ρ σ H) {i : Nat} (ok : okSet ρ i) {a : Addr} {vs : List V} {xs : List D} (h2 : H a = some (.lst vs)) (h3 : G a = none) (h4 : F a = none)
    (hn : NoS ρ σ a) (hr : RpL K G xs vs) : Rel K P G F (ρ.set i (.own false xs)) (σ.set i (some (.ref a))) H := by
  have hl : i < σ.length := by rw [← R.len]; exact ok.lt
  refine ⟨by rw [List.length_set, List.length_set]; exact R.len, R.sg, R.sf, R.gf, fun j e q => ?_, fun j b ys q => ?_, fun j k c b ys b' zs q1 q2 q3 q4 => ?_, fun p hp => ?_, fun j ys q => ?_, R.tr.step (fun j t q => ?_) (Same.refl _) (fun j t b q hb => ?_) fun j c ys b k t q1 q2 q3 => ?_⟩
  · rcases get_set q with ⟨rfl, z⟩ | ⟨hj, q⟩
    · cases z
    · rw [set_ne hj]
      exact R.dat j e q
  · rcases get_set q with ⟨rfl, z⟩ | ⟨hj, q⟩
    · cases z
      exact ⟨a, vs, set_eq hl, h2, h3, h4, hr⟩
    · rw [set_ne hj]
      exact R.own j b ys q
  · rcases get_set q1 with ⟨e1, z1⟩ | ⟨hj, q1⟩
    · rcases get_set q2 with ⟨e2, _⟩ | ⟨hk, q2⟩
      · rw [e1, e2]
      · rw [e1, set_eq hl] at q3
        rw [set_ne hk] at q4
        cases q3
        exact absurd q4 (hn.own k _ _ q2)
    · rw [set_ne hj] at q3
      rcases get_set q2 with ⟨e2, _⟩ | ⟨hk, q2⟩
      · rw [e2, set_eq hl] at q4
        cases q4
        exact absurd q3 (hn.own j _ _ q1)
      · rw [set_ne hk] at q4
        exact R.ne j k c b ys b' zs q1 q2 q3 q4
  · obtain ⟨g1, zs, g2⟩ := R.pin p hp
    have hne : p.1 ≠ i := fun z => ok.nio zs (by rw [← z]; exact g2)
    exact ⟨by rw [set_ne hne]; exact g1, zs, by rw [set_ne hne]; exact g2⟩
  · rcases get_set q with ⟨_, z⟩ | ⟨_, q⟩
    · cases z
    · exact R.pinc j ys q
  · obtain ⟨hj, q⟩ := noTre (fun _ z => by cases z) q
    exact ⟨q, by rw [set_ne hj]⟩
  · obtain ⟨_, g2, g3⟩ := R.tr.ex (noTre (fun _ z => by cases z) q).2 hb
    exact ⟨rfl, g2, g3⟩
  · have q3 := (noTre (fun _ z => by cases z) q3).2
    rcases get_set q1 with ⟨e1, _⟩ | ⟨hj, q1⟩
    · rw [e1, set_eq hl] at q2
      cases q2
      exact hn.tre k t q3
    · rw [set_ne hj] at q2
      exact R.tr.own k t j c ys b q3 q1 q2
/-- an own list is rewritten in place -/
theorem Rel.write (R : Rel K P G F ρ σ H) {i : Nat} {b : Bool} {xs ys : List D} {a : Addr} {us : List V} (e : ρ[i]? = some (.own b xs)) (ea : σ[i]? = some (some (.ref a))) (hr : RpL K G ys us) :
    Rel K P G F (ρ.set i (.own b ys)) σ (upd H a (.lst us)) := by
  obtain ⟨a', vs, g1, g2, g3, g4, g5⟩ := R.own i b xs e
  rw [ea] at g1
  cases g1
  have hl : i < ρ.length := (List.getElem?_eq_some_iff.mp e).1
  refine ⟨by rw [List.length_set]; exact R.len, fun c o q => ?_, fun c o q => ?_, R.gf, fun j d q => ?_, fun j c zs q => ?_, fun j k c b1 z1 b2 z2 q1 q2 q3 q4 => ?_, fun p hp => ?_, fun j zs q => ?_, R.tr.step (fun j t q => ?_) (Same.refl _) (fun j t c q hc => ?_) fun j c zs d k t q1 q2 q3 => ?_⟩
  · rw [upd_ne (ne_of_none q g3)]; exact R.sg _ _ q
  · rw [upd_ne (ne_of_none q g4)]; exact R.sf _ _ q
  · rcases get_set q with ⟨_, z⟩ | ⟨_, q⟩
    · cases z
    · exact R.dat j d q
  · rcases get_set q with ⟨rfl, z⟩ | ⟨hj, q⟩
    · cases z
      exact ⟨a, us, ea, upd_same, g3, g4, hr⟩
    · obtain ⟨c', us', k1, k2, k3, k4, k5⟩ := R.own j c zs q
      refine ⟨c', us', k1, ?_, k3, k4, k5⟩
      rw [upd_ne fun z => ?_]
      · exact k2
      · subst z
        exact hj (R.ne j i _ _ _ _ _ q e k1 ea)
  · have f : ∀ (j : Nat) (b1 : Bool) (z1 : List D), (ρ.set i (.own b ys))[j]? = some (.own b1 z1) → ∃ b2 z2, ρ[j]? = some (.own b2 z2) := fun j b1 z1 q => by
      rcases get_set q with ⟨rfl, _⟩ | ⟨_, q⟩
      · exact ⟨_, _, e⟩
      · exact ⟨_, _, q⟩
    obtain ⟨b3, z3, q1⟩ := f j _ _ q1
    obtain ⟨b4, z4, q2⟩ := f k _ _ q2
    exact R.ne j k c _ _ _ _ q1 q2 q3 q4
  · obtain ⟨g1, zs, g2'⟩ := R.pin p hp
    refine ⟨g1, ?_⟩
    by_cases hne : p.1 = i
    · rw [hne, e] at g2'
      cases g2'
      rw [hne]
      exact ⟨ys, set_eq hl⟩
    · exact ⟨zs, by rw [set_ne hne]; exact g2'⟩
  · rcases get_set q with ⟨rfl, z⟩ | ⟨_, q⟩
    · cases z
      exact R.pinc _ _ e
    · exact R.pinc j zs q
  · exact ⟨(noTre (fun _ z => by cases z) q).2, rfl⟩
  · have q := (noTre (fun _ z => by cases z) q).2
    obtain ⟨_, k2, k3⟩ := R.tr.ex q hc
    exact ⟨upd_ne fun z => R.tr.own j t i b xs a q e ea (by rw [← z]; exact hc), k2, k3⟩
  · have r3 := (noTre (fun _ z => by cases z) q3).2
    rcases get_set q1 with ⟨ej, _⟩ | ⟨_, q1⟩
    · rw [ej] at q2
      exact R.tr.own k t i b xs d r3 e q2
    · exact R.tr.own k t j c zs d r3 q1 q2
/-- a slot's list is handed away -/
theorem Rel.drop (R : Rel K P G F ρ σ H) {i : Nat} {xs : List D} (e : ρ[i]? = some (.own false xs)) : Rel K P G F (ρ.set i .un) σ H := by
  refine ⟨by rw [List.length_set]; exact R.len, R.sg, R.sf, R.gf, fun j d q => ?_, fun j b ys q => ?_, fun j k c b ys b' zs q1 q2 => ?_, fun p hp => ?_, fun j ys q => ?_, R.tr.setN' (fun _ _ z => by cases z) fun _ z => by cases z⟩
  · rcases get_set q with ⟨_, z⟩ | ⟨_, q⟩
    · cases z
    · exact R.dat j d q
  · rcases get_set q with ⟨_, z⟩ | ⟨_, q⟩
    · cases z
    · exact R.own j b ys q
  · rcases get_set q1 with ⟨_, z⟩ | ⟨_, q1⟩
    · cases z
    rcases get_set q2 with ⟨_, z⟩ | ⟨_, q2⟩
    · cases z
    exact R.ne j k c b ys b' zs q1 q2
  · obtain ⟨g1, zs, g2⟩ := R.pin p hp
    refine ⟨g1, zs, ?_⟩
    rw [set_ne fun z => ?_]
    · exact g2
    · rw [z, e] at g2; cases g2
  · rcases get_set q with ⟨_, z⟩ | ⟨_, q⟩
    · cases z
    · exact R.pinc j ys q
end
/-! ### targets -/
abbrev AG := D → List Sv → (List Sv → Prop) → Prop
abbrev AGs := List D → List Sv → (List Sv → Prop) → Prop
structure GX (X : Cx) (tg : Expr) (t : AG) : Prop where
  ex : ∃ T : TG, PG X tg T ∧ ∀ P G F ρ σ H d v (Q : List Sv → Prop) (Q' : St → Hp → Prop), Rel X.K P G F ρ σ H → Rp X.K G d v → t d ρ Q → (∀ ρ' σ', Rel X.K P G F ρ' σ' H → Q ρ' → Q' σ' H) → T v σ H Q'
structure GXs (X : Cx) (ts : List Expr) (n : Nat) (t : AGs) : Prop where
  ex : ∃ T : TGs, PGs X ts T ∧ ∀ P G F ρ σ H ds vs (Q : List Sv → Prop) (Q' : St → Hp → Prop), Rel X.K P G F ρ σ H → RpL X.K G ds vs → t ds ρ Q → (∀ ρ' σ', Rel X.K P G F ρ' σ' H → Q ρ' → Q' σ' H) → T vs σ H Q'
  len : ∀ ds ρ Q, t ds ρ Q → ds.length = n
def agName (i : Nat) : AG := fun d ρ Q => okSet ρ i ∧ Q (ρ.set i (.dat d))
def agNil : AGs := fun ds ρ Q => ds = [] ∧ Q ρ
def agCons (t : AG) (u : AGs) : AGs := fun ds ρ Q => match ds with
  | [] => False
  | d :: r => t d ρ fun ρ1 => u r ρ1 Q
def agTup (u : AGs) : AG := fun d ρ Q => match d with
  | .tup ds => u ds ρ Q
  | .lst ds => u ds ρ Q
  | _ => False
section
variable {X : Cx} {pos : Pos}
theorem g_name {i : Nat} {x : Str} (hN : X.N.Nodup) (hi : X.N[i]? = some x := by rfl) (hx : Loc X.env.scope x := by first | exact .inl rfl | exact .inr rfl) (hf : X.fn x = true ∨ X.env.scope.names.lookup x = some .local := by first | exact .inl rfl | exact .inr rfl | assumption) : GX X (.Name x pos) (agName i) := by
  refine ⟨_, pg_name hN hi hx hf, fun P G F ρ σ H d v Q Q' R rv ⟨ok, h⟩ hq => hq _ _ (R.setD ok rv) h⟩
theorem gs_nil : GXs X [] 0 agNil := ⟨⟨_, pgs_nil, fun P G F ρ σ H ds vs Q Q' R rs ⟨e, h⟩ hq => by
  subst e
  exact ⟨rpl_nil.mp rs, hq _ _ R h⟩⟩, fun ds ρ Q h => by rw [h.1]; rfl⟩
theorem gs_cons {e : Expr} {es : List Expr} {n : Nat} {t : AG} {u : AGs} (h1 : GX X e t) (h2 : GXs X es n u) (hs : (assignEach (e :: es) X.env).map (·.2) = assign e X.env :: (assignEach es X.env).map (·.2) := by rfl)
    (hm : ∀ d ρ Q, t d ρ Q → ∃ ρ1, Q ρ1) : GXs X (e :: es) (n + 1) (agCons t u) := by
  obtain ⟨T, p, r⟩ := h1.ex
  obtain ⟨U, p', r'⟩ := h2.ex
  refine ⟨⟨_, pgs_cons p p' hs, fun P G F ρ σ H ds vs Q Q' R rs h hq => ?_⟩, fun ds ρ Q h => ?_⟩
  · cases ds with
    | nil => exact h.elim
    | cons d ds =>
      obtain ⟨v, w, rfl, rv, rw'⟩ := rpl_cons.mp rs
      exact ⟨v, w, rfl, r P G F ρ σ H d v _ _ R rv h fun ρ1 σ1 R1 q1 => r' P G F ρ1 σ1 H ds w _ Q' R1 rw' q1 hq⟩
  · cases ds with
    | nil => exact h.elim
    | cons d ds =>
      obtain ⟨ρ1, q⟩ := hm _ _ _ h
      rw [List.length_cons, h2.len _ _ _ q]
theorem gm_name {i : Nat} : ∀ d ρ Q, agName i d ρ Q → ∃ ρ1, Q ρ1 := fun d ρ Q h => ⟨_, h.2⟩
theorem PG.or {tg : Expr} {t u : TG} (h : PG X tg t) (k : PG X tg u) : PG X tg (fun v σ H Q => t v σ H Q ∨ u v σ H Q) := ⟨fun pins s σ H v w Q I r q => q.elim (h.run pins s σ H v w Q I r) (k.run pins s σ H v w Q I r)⟩
theorem g_tup {es : List Expr} {k n : Nat} {u : AGs} (hc : X.calm = true) (h : GXs X es n u) (hn : (assignEach es X.env).length = n := by rfl) (hst : (assignEach es X.env).findIdx? (·.1) = none := by rfl) : GX X (.Tuple es k pos) (agTup u) := by
  obtain ⟨T, p, r⟩ := h.ex
  refine ⟨_, PG.or (pg_tup hc p hn hst) (pg_lst hc p hn hst), fun P G F ρ σ H d v Q Q' R rv h' hq => ?_⟩
  cases d <;> first | exact h'.elim | skip
  · obtain ⟨a, vs, rfl, h2, h3⟩ := rp_lst.mp rv
    exact .inr ⟨a, vs, rfl, R.sg.seq h2, by rw [← h3.length]; exact h.len _ _ _ h', r P G F ρ σ H _ vs Q Q' R h3 h' hq⟩
  · obtain ⟨a, vs, rfl, h2, h3⟩ := rp_tup.mp rv
    exact .inl ⟨a, vs, rfl, Same.seqT R.sg h2, by rw [← h3.length]; exact h.len _ _ _ h', r P G F ρ σ H _ vs Q Q' R h3 h' hq⟩
end
/-! ### simple statements -/
def sAsg (te : AE) (g : AG) : AS := fun D ρ => te ρ (fun d ρ1 => g d ρ1 D.nx) D.xx
def sSetO (te : AO) (i : Nat) : AS := fun D ρ => te ρ (fun xs ρ1 => okSet ρ1 i ∧ D.nx (ρ1.set i (.own false xs))) D.xx
def sDrop (te : AE) : AS := fun D ρ => te ρ (fun _ ρ1 => D.nx ρ1) D.xx
def sRet (te : AE) : AS := fun D ρ => te ρ (fun d ρ1 => D.rt (.dat d) ρ1) D.xx
def sRetO (te : AO) : AS := fun D ρ => te ρ (fun xs ρ1 => D.rt (.own false xs) ρ1) D.xx
/-- return x, x a list of its own -/
def sRetV (i : Nat) : AS := fun D ρ => match ρ[i]? with
  | some (.own false xs) => D.rt (.own false xs) (ρ.set i .un)
  | some (.dat d) => D.rt (.dat d) ρ
  | _ => False
def sRetN : AS := fun D ρ => D.rt (.dat .non) ρ
def sNx : AS := fun D ρ => D.nx ρ
def sSeq (t u : AS) : AS := fun D ρ => t { D with nx := u D } ρ
def sIf (c : AT) (t u : AS) : AS := fun D ρ => c ρ (fun b ρ1 => if b = true then t D ρ1 else u D ρ1) D.xx
section
variable {X : Cx} {W : WX} {pos : Pos} {e : Expr} {te : AE} {to : AO}
theorem XIn.at {P : List (Nat × Addr)} {G F : Hp} {D : AEnds} {D' : Ends} (h : EndsOk X W P G F D D') (σ : St) : XIn X W P G F σ D.xx := h.xx σ
theorem s_set {i : Nat} {x : Str} {pos' : Pos} (hN : X.N.Nodup) (he : EX X W e te) (hi : X.N[i]? = some x := by rfl) (hx : Loc X.env.scope x := by first | exact .inl rfl | exact .inr rfl) (hs : swapsWith e (some (.Name x pos')) pos.line X.env = pure false := by rfl)
    (hf : X.fn x = true ∨ X.env.scope.names.lookup x = some .local := by first | exact .inl rfl | exact .inr rfl | assumption) : SX X W (.Assign [.Name x pos'] e pos) (sAsg te (agName i)) := by
  obtain ⟨T, p, r⟩ := he.ex
  refine ⟨_, ps_set hN hi hx p hs hf, fun P G F ρ σ H D D' R h hd => ?_⟩
  exact r P G F ρ σ H _ D.xx _ R h (hd.xx σ) fun G1 ρ1 H1 v d R1 s1 rv ⟨ok, q⟩ => hd.nx G1 _ _ H1 (R1.setD ok rv) s1 q
theorem s_setO {i : Nat} {x : Str} {pos' : Pos} (hN : X.N.Nodup) (he : EO X W e to) (hi : X.N[i]? = some x := by rfl) (hx : Loc X.env.scope x := by first | exact .inl rfl | exact .inr rfl) (hs : swapsWith e (some (.Name x pos')) pos.line X.env = pure false := by rfl)
    (hf : X.fn x = true ∨ X.env.scope.names.lookup x = some .local := by first | exact .inl rfl | exact .inr rfl | assumption) : SX X W (.Assign [.Name x pos'] e pos) (sSetO to i) := by
  obtain ⟨T, p, r⟩ := he.ex
  refine ⟨_, ps_set hN hi hx p hs hf, fun P G F ρ σ H D D' R h hd => ?_⟩
  exact r P G F ρ σ H _ D.xx _ R h (hd.xx σ) fun G1 ρ1 H1 a vs xs R1 s1 h2 h3 h4 hn hr ⟨ok, q⟩ => hd.nx G1 _ _ H1 (R1.setO ok h2 h3 h4 hn hr) s1 q
theorem s_asg {tg : Expr} {g : AG} (he : EX X W e te) (hg : GX X tg g) (hs : swapsWithSole [tg] e pos.line X.env = pure false := by rfl) (hw : swappedStores [tg] e X.env = pure none := by rfl)
    (h1 : (assignEach [tg] X.env).map (·.2) = [assign tg X.env] := by rfl) : SX X W (.Assign [tg] e pos) (sAsg te g) := by
  obtain ⟨T, p, r⟩ := he.ex
  obtain ⟨U, p', r'⟩ := hg.ex
  refine ⟨_, ps_asg p p' hs hw h1, fun P G F ρ σ H D D' R h hd => ?_⟩
  exact r P G F ρ σ H _ D.xx _ R h (hd.xx σ) fun G1 ρ1 H1 v d R1 s1 rv q => r' P G1 F ρ1 σ H1 d v _ _ R1 rv q fun ρ2 σ2 R2 q2 => hd.nx G1 ρ2 σ2 H1 R2 s1 q2
theorem s_expr (he : EX X W e te) (hs : swapsWith e none pos.line X.env = pure false := by rfl) : SX X W (.Expr e pos) (sDrop te) := by
  obtain ⟨T, p, r⟩ := he.ex
  refine ⟨_, ps_expr p hs, fun P G F ρ σ H D D' R h hd => ?_⟩
  exact r P G F ρ σ H _ D.xx _ R h (hd.xx σ) fun G1 ρ1 H1 v d R1 s1 rv q => hd.nx G1 ρ1 σ H1 R1 s1 q
theorem s_ret (he : EX X W e te) : SX X W (.Return (some e) pos) (sRet te) := by
  obtain ⟨T, p, r⟩ := he.ex
  refine ⟨_, ps_ret p, fun P G F ρ σ H D D' R h hd => ?_⟩
  exact r P G F ρ σ H _ D.xx _ R h (hd.xx σ) fun G1 ρ1 H1 v d R1 s1 rv q => hd.rt G1 ρ1 σ H1 (.dat d) v R1 s1 rv q
theorem s_retO (he : EO X W e to) : SX X W (.Return (some e) pos) (sRetO to) := by
  obtain ⟨T, p, r⟩ := he.ex
  refine ⟨_, ps_ret p, fun P G F ρ σ H D D' R h hd => ?_⟩
  refine r P G F ρ σ H _ D.xx _ R h (hd.xx σ) fun G1 ρ1 H1 a vs xs R1 s1 h2 h3 h4 hn hr q => hd.rt G1 ρ1 σ H1 (.own false xs) (.ref a) R1 s1 ⟨a, vs, rfl, h2, h3, h4, fun p hp z => ?_, hr⟩ q
  obtain ⟨g1, zs, g2⟩ := R1.pin p hp
  exact hn.own _ _ _ g2 (by rw [← z]; exact g1)
theorem s_retV {i : Nat} {x : Str} {p1 : Pos} (hi : X.N[i]? = some x := by rfl) (hv : Vis X.env.scope x := by first | exact Or.inl rfl | exact Or.inr (Or.inl rfl) | exact Or.inr (Or.inr rfl)) (hd1 : (x == ("__debug__" : Str)) = false := by decide)
    (hcd : (x == ("__classdict__" : Str)) = false := by decide) : SX X W (.Return (some (.Name x p1)) pos) (sRetV i) := by
  refine ⟨_, ps_ret (pe_var hi hv hd1 hcd), fun P G F ρ σ H D D' R h hd => ?_⟩
  unfold sRetV at h
  cases q : ρ[i]? with
  | none => rw [q] at h; exact h.elim
  | some s =>
    rw [q] at h
    cases s with
    | un => exact h.elim
    | pr _ _ => exact h.elim
    | tre _ => exact h.elim
    | dat d =>
      obtain ⟨v, g1, g2⟩ := R.dat i d q
      exact ⟨v, g1, hd.rt G ρ σ H (.dat d) v R (Same.refl _) g2 h⟩
    | own b xs =>
      cases b with
      | true => exact h.elim
      | false =>
        obtain ⟨a, vs, g1, g2, g3, g4, g5⟩ := R.own i false xs q
        refine ⟨_, g1, hd.rt G _ σ H (.own false xs) (.ref a) (R.drop q) (Same.refl _) ⟨a, vs, rfl, g2, g3, g4, fun p hp z => ?_, g5⟩ h⟩
        obtain ⟨k1, zs, k2⟩ := R.pin p hp
        have e1 := R.ne p.1 i a _ _ _ _ k2 q (by rw [← z]; exact k1) g1
        rw [e1, q] at k2
        cases k2
theorem s_retN : SX X W (.Return none pos) sRetN := ⟨_, ps_retN, fun P G F ρ σ H D D' R h hd => hd.rt G ρ σ H (.dat .non) .non R (Same.refl _) (show Rp X.K G .non .non from rp_non.mpr rfl) h⟩
theorem ss_nil : SXs X W [] sNx := ⟨_, pss_nil, fun P G F ρ σ H D D' R h hd => hd.nx G ρ σ H R (Same.refl _) h⟩
variable {st : Stmt} {rest : List Stmt} {t u : AS}
theorem ss_one (h : SX X W st t) : SXs X W [st] t := by
  obtain ⟨T, p, r⟩ := h.ex
  exact ⟨_, pss_one p, r⟩
theorem ss_cons (h : SX X W st t) (k : SXs X W rest u) : SXs X W (st :: rest) (sSeq t u) := by
  obtain ⟨T, p, r⟩ := h.ex
  obtain ⟨U, p', r'⟩ := k.ex
  refine ⟨_, pss_cons p p', fun P G F ρ σ H D D' R h hd => ?_⟩
  exact r P G F ρ σ H _ _ R h ⟨fun G1 ρ1 σ1 H1 R1 s1 q => r' P G1 F ρ1 σ1 H1 D D' R1 q (hd.mono s1), hd.rt, hd.bk, hd.ct, hd.xx⟩
theorem s_if {c : Expr} {a b : List Stmt} {tc : AT} {t u : AS} (hc : TX X W c tc) (ha : SXs X W a t) (hb : SXs X W b u) : SX X W (.If c a b pos) (sIf tc t u) := by
  obtain ⟨T, p, r⟩ := hc.ex
  obtain ⟨U, p', r'⟩ := ha.ex
  obtain ⟨U2, p2, r2⟩ := hb.ex
  refine ⟨_, ps_if p p' p2, fun P G F ρ σ H D D' R h hd => ?_⟩
  refine r P G F ρ σ H _ D.xx _ R h (hd.xx σ) fun G1 ρ1 H1 c R1 s1 q => ?_
  cases c with
  | true => exact iteT (r' P G1 F ρ1 σ H1 D D' R1 (by rw [if_pos rfl] at q; exact q) (hd.mono s1))
  | false => exact iteF (r2 P G1 F ρ1 σ H1 D D' R1 (by rw [if_neg Bool.false_ne_true] at q; exact q) (hd.mono s1))
/-- x op= e -/
def sAug (i : Nat) (β : D → D → (D → Prop) → Prop) (te : AE) : AS := fun D ρ => match ρ[i]? with
  | some (.dat d) => te ρ (fun e ρ1 => β d e fun z => okSet ρ1 i ∧ D.nx (ρ1.set i (.dat z))) D.xx
  | _ => False
theorem s_aug {i : Nat} {x : Str} {op : Operator} {r : R2} {β : D → D → (D → Prop) → Prop} {pos' : Pos} (hN : X.N.Nodup) (ho : OpR X (inplaceOp op) r) (hb : B2 X.K r β) (he : EX X W e te) (hi : X.N[i]? = some x := by rfl) (hx : Loc X.env.scope x := by first | exact .inl rfl | exact .inr rfl)
    (hf : X.fn x = true ∨ X.env.scope.names.lookup x = some .local := by first | exact .inl rfl | exact .inr rfl | assumption) : SX X W (.AugAssign (.Name x pos') op e pos) (sAug i β te) := by
  obtain ⟨T, p, q⟩ := he.ex
  refine ⟨_, ps_aug (ti := r) hN hi hx p (fun pins s σ H x y v u Q I rx ry h => ho pins s σ H x y v u Q I rx ry h) hf, fun P G F ρ σ H D D' R h hd => ?_⟩
  unfold sAug at h
  split at h
  · rename_i d ed
    obtain ⟨v, g1, g2⟩ := R.dat i d ed
    refine ⟨v, g1, q P G F ρ σ H _ D.xx _ R h (hd.xx σ) fun G1 ρ1 H1 u e' R1 s1 ru h1 => ?_⟩
    exact hb G1 H1 d e' v u _ _ R1.sg (g2.mono s1) ru h1 fun J' H' z w g rz ⟨ok, k⟩ => hd.nx J' _ _ H' ((R1.grow g).setD ok rz) (s1.trans g.j) k
  · exact h.elim
/-! ### an own list in place -/
def sApp (i : Nat) (te : AE) : AS := fun D ρ => te ρ (fun d ρ1 => match ρ1[i]? with
  | some (.own b xs) => xs.length < sizeLine ∧ D.nx (ρ1.set i (.own b (xs ++ [d])))
  | _ => False) D.xx
/-- slot i holds a list of its own -/
def isOwn (ρ : List Sv) (i : Nat) : Prop := match ρ[i]? with
  | some (.own _ _) => True
  | _ => False
theorem isOwn.ex {ρ : List Sv} {i : Nat} (h : isOwn ρ i) : ∃ b xs, ρ[i]? = some (.own b xs) := by
  unfold isOwn at h
  split at h
  · rename_i b xs e; exact ⟨b, xs, e⟩
  · exact h.elim
theorem s_app {i : Nat} {x : Str} {p1 apos cpos : Pos} (he : EX X W e te) (hi : X.N[i]? = some x := by rfl) (hv : Vis X.env.scope x := by first | exact Or.inl rfl | exact Or.inr (Or.inl rfl) | exact Or.inr (Or.inr rfl)) (hd1 : (x == ("__debug__" : Str)) = false := by decide)
    (hcd : (x == ("__classdict__" : Str)) = false := by decide) (hp : ∀ T, PE X e T → PE X (.Call (.Attribute (.Name x p1) "append" apos) [e] [] cpos) (tBM X.K "list" rAppend (tVar i) (tCons T tNil)))
    (hs : swapsWith (.Call (.Attribute (.Name x p1) "append" apos) [e] [] cpos) none pos.line X.env = pure false := by rfl) :
    SX X W (.Expr (.Call (.Attribute (.Name x p1) "append" apos) [e] [] cpos) pos) (fun D ρ => isOwn ρ i ∧ sApp i te D ρ) := by
  obtain ⟨T, p, r⟩ := he.ex
  refine ⟨_, ps_expr (hp T p) hs, fun P G F ρ σ H D D' R ⟨h0, h⟩ hd => ?_⟩
  obtain ⟨b, xs, e0⟩ := h0.ex
  obtain ⟨a, vs, g1, g2, g3, g4, g5⟩ := R.own i b xs e0
  refine ⟨.ref a, g1, .inl ⟨rfl, _, .inl (.inl g2)⟩, r P G F ρ σ H _ D.xx _ R h (hd.xx σ) fun G1 ρ1 H1 v d R1 s1 rv q => ?_⟩
  split at q
  · rename_i b1 ys e1
    obtain ⟨a', us, k1, k2, k3, k4, k5⟩ := R1.own i b1 ys e1
    rw [g1] at k1
    cases k1
    refine ⟨a, us, v, rfl, rfl, k2, by rw [← k5.length]; exact q.1, hd.nx G1 _ σ _ (R1.write e1 g1 (k5.append (RpL.cons rv RpL.nil))) s1 q.2⟩
  · exact q.elim
/-- x[k] = e, x a list of its own -/
def sPut (i : Nat) (te tk : AE) : AS := fun D ρ => te ρ (fun d ρ1 => tk ρ1 (fun k ρ2 => match k, ρ2[i]? with
  | .int k, some (.own b xs) => ∃ j, ixN xs.length k = some j ∧ D.nx (ρ2.set i (.own b (xs.set j d)))
  | _, _ => False) D.xx) D.xx
theorem s_put {i : Nat} {x : Str} {p1 sp : Pos} {ek : Expr} {tk : AE} (he : EX X W e te) (hk : EX X W ek tk) (hi : X.N[i]? = some x := by rfl) (hv : Vis X.env.scope x := by first | exact Or.inl rfl | exact Or.inr (Or.inl rfl) | exact Or.inr (Or.inr rfl)) (hd1 : (x == ("__debug__" : Str)) = false := by decide)
    (hcd : (x == ("__classdict__" : Str)) = false := by decide)
    (ha : ∀ v, assign (.Subscript (.Name x p1) ek sp) X.env v = (do
      let ov ← holding [v] (eval (.Name x p1) X.env)
      let iv ← holding [v, ov] (eval ek X.env)
      standAt sp
      holding [v, ov, iv] (setItem ov iv v)
      release [v, ov, iv] []) := by intro _; rfl)
    (hs : swapsWithSole [.Subscript (.Name x p1) ek sp] e pos.line X.env = pure false := by rfl) (hw : swappedStores [.Subscript (.Name x p1) ek sp] e X.env = pure none := by rfl)
    (h1 : (assignEach [.Subscript (.Name x p1) ek sp] X.env).map (·.2) = [assign (.Subscript (.Name x p1) ek sp) X.env] := by rfl) : SX X W (.Assign [.Subscript (.Name x p1) ek sp] e pos) (fun D ρ => te ρ (fun d ρ1 => isOwn ρ1 i ∧ sPut i (fun _ Q _ => Q d ρ1) tk D ρ1) D.xx) := by
  obtain ⟨T, p, r⟩ := he.ex
  obtain ⟨U, p', r'⟩ := hk.ex
  refine ⟨_, ps_asg p (pg_sub (pe_var hi hv hd1 hcd) p' set_list ha) hs hw h1, fun P G F ρ σ H D D' R h hd => ?_⟩
  refine r P G F ρ σ H _ D.xx _ R h (hd.xx σ) fun G1 ρ1 H1 v d R1 s1 rv ⟨h0, h2⟩ => ?_
  obtain ⟨b, xs, e0⟩ := h0.ex
  obtain ⟨a, vs, g1, g2, g3, g4, g5⟩ := R1.own i b xs e0
  refine ⟨.ref a, g1, r' P G1 F ρ1 σ H1 _ D.xx _ R1 h2 ((hd.xx σ).mono s1) fun G2 ρ2 H2 u k R2 s2 ru q => ?_⟩
  split at q
  · rename_i k' b1 ys e1
    obtain ⟨j, hj, q⟩ := q
    obtain ⟨a', us, k1, k2, k3, k4, k5⟩ := R2.own i b1 ys e1
    rw [g1] at k1
    cases k1
    exact ⟨a, us, k', j, rfl, rp_int.mp ru, k2, by rw [← k5.length]; exact hj, hd.nx G2 _ σ _ (R2.write e1 g1 (k5.set (rv.mono s2) j)) (s1.trans s2) q⟩
  · exact q.elim
end
end VS
/-! VSg: loops and comprehensions. -/
namespace VS
open PySem PySem.Spec PyProof.Rows L2
/-! ### what is walked -/
/-- the walk J goes through the items ds, from the heap G on -/
structure Walk (K : PySem.W.Frag) (G : Hp) (J : It) (ds : List D) : Prop where
  go : ∀ (i : Nat) (H : Hp), Same G H → i < ds.length → J.go i H
  stop : ∀ (i : Nat) (H : Hp), Same G H → ds.length ≤ i → J.stop i H
  yld : ∀ (i : Nat) (G1 H H' : Hp) (x : V) (d : D), Same G G1 → Same G1 H → ds[i]? = some d → J.yld i H x H' → ∃ G2, Grow G1 H G2 H' ∧ Rp K G2 d x
abbrev AI := List Sv → (List D → List Sv → Prop) → KX → Prop
structure IX (X : Cx) (W : WX) (tg iter : Expr) (t : AI) : Prop where
  ex : ∃ T : TI, PI X tg iter T ∧ ∀ P G F ρ σ H (Q : List D → List Sv → Prop) (Z : KX) (R' : It → Hp → Prop), Rel X.K P G F ρ σ H → t ρ Q Z → XIn X W P G F σ Z →
    (∀ G' ρ' H' J ds, Rel X.K P G' F ρ' σ H' → Same G G' → Walk X.K G' J ds → Q ds ρ' → R' J H') → T σ H R'
theorem walk_list {K : PySem.W.Frag} {G : Hp} {a : Addr} {xs : List D} {vs : List V} (h2 : SqL K G a vs) (h3 : RpL K G xs vs) : Walk K G (Itl K a) xs := by
  refine ⟨fun i H s hi => ?_, fun i H s hi => ⟨vs, s.seq h2, by rw [← h3.length]; exact hi⟩, fun i G1 H H' x d s1 s2 e ⟨eH, y⟩ => ?_⟩
  · obtain ⟨v, e, _⟩ := h3.get (List.getElem?_eq_getElem hi)
    exact ⟨vs, v, s.seq h2, e⟩
  · subst eH
    obtain ⟨v, e2, rv⟩ := h3.get e
    have q := y vs ((s1.trans s2).seq h2)
    rw [e2] at q
    cases q
    exact ⟨G1, Grow.refl s2, rv.mono s1⟩
theorem walk_tup {K : PySem.W.Frag} {G : Hp} {a : Addr} {xs : List D} {vs : List V} (h2 : SqT K G a vs) (h3 : RpL K G xs vs) : Walk K G (Itt K a) xs := by
  refine ⟨fun i H s hi => ?_, fun i H s hi => ⟨vs, Same.seqT s h2, by rw [← h3.length]; exact hi⟩, fun i G1 H H' x d s1 s2 e ⟨eH, y⟩ => ?_⟩
  · obtain ⟨v, e, _⟩ := h3.get (List.getElem?_eq_getElem hi)
    exact ⟨vs, v, Same.seqT s h2, e⟩
  · subst eH
    obtain ⟨v, e2, rv⟩ := h3.get e
    have q := y vs (Same.seqT (s1.trans s2) h2)
    rw [e2] at q
    cases q
    exact ⟨G1, Grow.refl s2, rv.mono s1⟩
def rangeD (lo : Int) (n : Nat) : List D := (List.range n).map fun i => D.int (lo + (i : Nat))
theorem rangeD_len (lo : Int) (n : Nat) : (rangeD lo n).length = n := by simp [rangeD]
theorem rangeD_get {lo : Int} {n i : Nat} {d : D} (h : (rangeD lo n)[i]? = some d) : i < n ∧ d = .int (lo + (i : Nat)) := by
  unfold rangeD at h
  rw [List.getElem?_map] at h
  have hi : i < n := by
    by_cases q : i < n
    · exact q
    · rw [List.getElem?_eq_none (by simpa using q)] at h
      cases h
  refine ⟨hi, ?_⟩
  rw [List.getElem?_range hi] at h
  exact (Option.some.inj h).symm
theorem walk_range {K : PySem.W.Frag} {G : Hp} {lo : Int} {n : Nat} : Walk K G (Itr lo n) (rangeD lo n) := by
  refine ⟨fun i H s hi => by rw [rangeD_len] at hi; exact hi, fun i H s hi => by rw [rangeD_len] at hi; exact hi, fun i G1 H H' x d s1 s2 e ⟨eH, y⟩ => ?_⟩
  obtain ⟨_, rfl⟩ := rangeD_get e
  subst eH y
  exact ⟨G1, Grow.refl s2, rp_int.mpr rfl⟩
def signsD (x : Str) : List D := x.cps.toList.map fun c => D.str ⟨#[c]⟩
theorem walk_str {K : PySem.W.Frag} {G : Hp} {x : Str} : Walk K G (Its x) (signsD x) := by
  refine ⟨fun i H s hi => by show i < x.cps.size; simpa [signsD] using hi, fun i H s hi => by show x.cps.size ≤ i; simpa [signsD] using hi, fun i G1 H H' v d s1 s2 e ⟨eH, c, hc, y⟩ => ?_⟩
  subst eH y
  unfold signsD at e
  rw [List.getElem?_map, Array.getElem?_toList, hc] at e
  cases e
  exact ⟨G1, Grow.refl s2, rp_str.mpr rfl⟩
section
variable {X : Cx} {W : WX} {tg e : Expr} {te : AE}
/-- two ways of one walk -/
theorem PI.or {iter : Expr} {t u : TI} (h : PI X tg iter t) (k : PI X tg iter u) : PI X tg iter (fun σ H R => t σ H R ∨ u σ H R) := ⟨fun pins s σ H R I q => q.elim (h.run pins s σ H R I) (k.run pins s σ H R I)⟩
def iRange1 (t : AA) : AI := fun ρ Q Z => t ρ (fun ds ρ1 => match ds with
  | [.int n] => -(2 ^ 62) ≤ n ∧ n < 2 ^ 62 ∧ Q (rangeD 0 n.toNat) ρ1
  | _ => False) Z
theorem i_range1 {p pos : Pos} {t : AA} (hg : Gl X "range") (hm : X.mg "range" = none) (ha : EXs X W [e] t) (hs : starEach [e] X.env = [(false, eval e X.env)] := by rfl) : IX X W tg (.Call (.Name "range" p) [e] [] pos) (iRange1 t) := by
  obtain ⟨T, p, r⟩ := ha.ex
  refine ⟨_, pi_range1 hg hm p hs, fun P G F ρ σ H Q Z R' R h hz hq => ?_⟩
  refine r P G F ρ σ H _ Z _ R h hz fun G1 ρ1 H1 vs ds R1 s1 rs q => ?_
  split at q
  · obtain ⟨v, rfl, rv⟩ := rpl1 rs
    exact ⟨_, by rw [rp_int.mp rv], q.1, q.2.1, hq G1 ρ1 H1 _ _ R1 s1 walk_range q.2.2⟩
  · exact q.elim
def iRange2 (t : AA) : AI := fun ρ Q Z => t ρ (fun ds ρ1 => match ds with
  | [.int m, .int n] => (-(2 ^ 62) ≤ m ∧ m < 2 ^ 62 ∧ -(2 ^ 62) ≤ n ∧ n < 2 ^ 62) ∧ Q (rangeD m (n - m).toNat) ρ1
  | _ => False) Z
/-- enumerate(xs) -/
def enumD (xs : List D) : List D := xs.mapIdx fun i d => D.tup [.int (i : Nat), d]
def iEnumD (t : AA) : AI := fun ρ Q Z => t ρ (fun ds ρ1 => match ds with
  | [.lst xs] => Q (enumD xs) ρ1
  | _ => False) Z
/-- zip(xs, ys) -/
def zipD (xs ys : List D) : List D := List.zipWith (fun x y => D.tup [x, y]) xs ys
def iZipD (t : AA) : AI := fun ρ Q Z => t ρ (fun ds ρ1 => match ds with
  | [.lst xs, .lst ys] => Q (zipD xs ys) ρ1
  | _ => False) Z
/-! ### for -/
def aLoop (g : AG) (tb : AS) (D : AEnds) : List VS.D → List Sv → Prop
  | [], ρ => D.nx ρ
  | d :: ds, ρ => g d ρ fun ρ1 => tb { D with nx := aLoop g tb D ds, ct := aLoop g tb D ds, bk := D.nx } ρ1
def sFor (ti : AI) (g : AG) (tb : AS) : AS := fun D ρ => ti ρ (fun ds ρ1 => aLoop g tb D ds ρ1) D.xx
theorem s_for {iter : Expr} {body : List Stmt} {ti : AI} {g : AG} {tb : AS} {pos : Pos} (hp : PassesOwn (model X.prog X.w) X.A X.env X.xe) (hc : X.calm = true) (hi : IX X W tg iter ti) (hg : GX X tg g) (hb : SXs X W body tb)
    (hs : ∀ x, foldedSetIterable iter X.env x = pure x := by intro _; rfl) : SX X W (.For tg iter body [] pos) (sFor ti g tb) := by
  obtain ⟨T, p, r⟩ := hi.ex
  obtain ⟨Tg, pg, rg⟩ := hg.ex
  obtain ⟨Tb, pb, rb⟩ := hb.ex
  refine ⟨_, ps_for hp hc p pg pb hs, fun P G F ρ σ H D D' R h hd => ?_⟩
  refine r P G F ρ σ H _ D.xx _ R h (hd.xx σ) fun G1 ρ1 H1 J ds R1 s1 wk q => ?_
  refine ⟨fun i m σ' H' => ∃ G' ρ', Rel X.K P G' F ρ' σ' H' ∧ Same G1 G' ∧ m = ds.length - i ∧ i ≤ ds.length ∧ aLoop g tb D (ds.drop i) ρ', ⟨_, G1, ρ1, R1, Same.refl _, rfl, Nat.zero_le _, q⟩, ?_⟩
  rintro i m σ' H' ⟨G', ρ', R', s', rfl, hi, q'⟩
  by_cases hlt : i < ds.length
  · refine .inr ⟨wk.go i H' (s'.trans R'.sg) hlt, fun σ2 H2 => ∃ G' ρ', Rel X.K P G' F ρ' σ2 H2 ∧ Same G1 G' ∧ aLoop g tb D (ds.drop (i + 1)) ρ', fun σ2 H2 ⟨G2, ρ2, R2, s2, q2⟩ => ⟨_, by omega, G2, ρ2, R2, s2, rfl, hlt, q2⟩, fun x H2 y => ?_⟩
    rw [List.drop_eq_getElem_cons hlt] at q'
    obtain ⟨G2, gr, rv⟩ := wk.yld i G' H' H2 x ds[i] s' R'.sg (List.getElem?_eq_getElem hlt) y
    refine rg P G2 F ρ' σ' H2 _ x _ _ (R'.grow gr) rv q' fun ρ3 σ3 R3 q3 => ?_
    have s3 : Same G1 G2 := s'.trans gr.j
    refine rb P G2 F ρ3 σ3 H2 _ _ R3 q3 ⟨fun G4 ρ4 σ4 H4 R4 s4 q4 => ⟨G4, ρ4, R4, s3.trans s4, q4⟩, fun G4 ρ4 σ4 H4 r v R4 s4 => hd.rt G4 ρ4 σ4 H4 r v R4 ((s1.trans s3).trans s4), fun G4 ρ4 σ4 H4 R4 s4 => hd.nx G4 ρ4 σ4 H4 R4 ((s1.trans s3).trans s4),
      fun G4 ρ4 σ4 H4 R4 s4 q4 => ⟨G4, ρ4, R4, s3.trans s4, q4⟩, fun σ4 => (hd.xx σ4).mono (s1.trans s3)⟩
  · have e : i = ds.length := by omega
    refine .inl ⟨wk.stop i H' (s'.trans R'.sg) (by omega), ?_⟩
    rw [e, List.drop_length] at q'
    exact hd.nx G' ρ' σ' H' R' (s1.trans s') q'
/-! ### while -/
def sWhile (tc : AT) (tb : AS) : AS := fun D ρ => ∃ I : Nat → List Sv → Prop, (∃ m, I m ρ) ∧ ∀ m ρ, I m ρ → tc ρ (fun b ρ1 => if b = true then tb { D with nx := fun ρ2 => ∃ m', m' < m ∧ I m' ρ2, ct := fun ρ2 => ∃ m', m' < m ∧ I m' ρ2, bk := D.nx } ρ1 else D.nx ρ1) D.xx
theorem s_while {c : Expr} {body : List Stmt} {tc : AT} {tb : AS} {pos : Pos} (hp : PassesOwn (model X.prog X.w) X.A X.env X.xe) (hc : TX X W c tc) (hb : SXs X W body tb) : SX X W (.While c body [] pos) (sWhile tc tb) := by
  obtain ⟨T, p, r⟩ := hc.ex
  obtain ⟨Tb, pb, rb⟩ := hb.ex
  refine ⟨_, ps_while hp p pb, fun P G F ρ σ H D D' R h hd => ?_⟩
  obtain ⟨I, ⟨m0, h0⟩, step⟩ := h
  refine ⟨fun m σ' H' => ∃ G' ρ', Rel X.K P G' F ρ' σ' H' ∧ Same G G' ∧ I m ρ', ⟨m0, G, ρ, R, Same.refl _, h0⟩, ?_⟩
  rintro m σ' H' ⟨G', ρ', R', s', hI⟩
  refine r P G' F ρ' σ' H' _ D.xx _ R' (step m ρ' hI) ((hd.xx σ').mono s') fun G1 ρ1 H1 b R1 s1 q => ?_
  cases b with
  | false => exact iteF (hd.nx G1 ρ1 σ' H1 R1 (s'.trans s1) (by rw [if_neg Bool.false_ne_true] at q; exact q))
  | true =>
    refine iteT ⟨fun σ2 H2 => ∃ m', m' < m ∧ ∃ G' ρ', Rel X.K P G' F ρ' σ2 H2 ∧ Same G G' ∧ I m' ρ', fun σ2 H2 q => q, ?_⟩
    rw [if_pos rfl] at q
    exact rb P G1 F ρ1 σ' H1 _ _ R1 q ⟨fun G4 ρ4 σ4 H4 R4 s4 ⟨m', hm, q4⟩ => ⟨m', hm, G4, ρ4, R4, (s'.trans s1).trans s4, q4⟩, fun G4 ρ4 σ4 H4 r v R4 s4 => hd.rt G4 ρ4 σ4 H4 r v R4 ((s'.trans s1).trans s4), fun G4 ρ4 σ4 H4 R4 s4 => hd.nx G4 ρ4 σ4 H4 R4 ((s'.trans s1).trans s4),
      fun G4 ρ4 σ4 H4 R4 s4 ⟨m', hm, q4⟩ => ⟨m', hm, G4, ρ4, R4, (s'.trans s1).trans s4, q4⟩, fun σ4 => (hd.xx σ4).mono (s'.trans s1)⟩
end
end VS
/-! VSh: comprehensions. -/
namespace VS
open PySem PySem.Spec PyProof.Rows L2
/-! ### what a family of contexts can do -/
def wpE (C : Cx → Prop) (e : Expr) : TE := fun σ H Q => ∀ X, C X → ∀ pins s, Inv X pins σ H s → wpAny (model X.prog X.w) X.A (eval e X.env) (EP X pins σ Q) X.xe s
def wpG (C : Cx → Prop) (tg : Expr) : TG := fun v σ H Q => ∀ X, C X → ∀ pins s u, Inv X pins σ H s → RelV v u → wpAny (model X.prog X.w) X.A (assign tg X.env u) (fun _ s' => ∃ σ' H', Inv X pins σ' H' s' ∧ Q σ' H') X.xe s
def wpTs (C : Cx → Prop) (ifs : List Expr) : TT := fun σ H Q => ∀ X, C X → ∀ pins s, Inv X pins σ H s →
  wpAny (model X.prog X.w) X.A (forIn ifs true fun c r => if r = true then do let ok ← isTrue c X.env (eval c X.env); pure (ForInStep.yield ok) else pure (ForInStep.yield r)) (TP X pins σ Q) X.xe s
theorem pe_wp {C : Cx → Prop} {e : Expr} {X : Cx} (h : C X) : PE X e (wpE C e) := ⟨fun pins s σ H Q I q => q X h pins s I⟩
theorem pg_wp {C : Cx → Prop} {e : Expr} {X : Cx} (h : C X) : PG X e (wpG C e) := ⟨fun pins s σ H v u Q I r q => q X h pins s u I r⟩
theorem pts_wp {C : Cx → Prop} {es : List Expr} {X : Cx} (h : C X) : PTs X es (wpTs C es) := ⟨fun pins s σ H Q I q => q X h pins s I⟩
/-- no exception is wanted -/
abbrev noW : WX := fun _ _ _ _ => False
abbrev noX : KX := fun _ _ => False
theorem xin_no {X : Cx} {P : List (Nat × Addr)} {G F : Hp} {σ : St} : XIn X noW P G F σ noX := fun _ _ _ _ _ _ _ _ _ z => z.elim
/-- a clause's tests -/
structure TXs (X : Cx) (W : WX) (es : List Expr) (t : AT) : Prop where
  ex : ∃ T : TT, PTs X es T ∧ ∀ P G F ρ σ H (Q : Bool → List Sv → Prop) (Z : KX) (Q' : Bool → Hp → Prop), Rel X.K P G F ρ σ H → t ρ Q Z → XIn X W P G F σ Z →
    (∀ G' ρ' H' b, Rel X.K P G' F ρ' σ H' → Same G G' → Q b ρ' → Q' b H') → T σ H Q'
def aYes : AT := fun ρ Q _ => Q true ρ
theorem tx_nil {X : Cx} {W : WX} : TXs X W [] aYes := ⟨_, pts_nil, fun P G F ρ σ H Q Z Q' R h hz hq => hq G ρ H true R (Same.refl _) h⟩
theorem tx_one {X : Cx} {W : WX} {c : Expr} {t : AT} (h : TX X W c t) : TXs X W [c] t := by
  obtain ⟨T, p, r⟩ := h.ex
  exact ⟨_, pts_one p, r⟩
/-! ### slots forgotten and put back -/
def noOwn (ρ : List Sv) (i : Nat) : Prop := match ρ[i]? with
  | some (.own _ _) => False
  | some (.tre _) => False
  | _ => True
def wipeA (ρ : List Sv) : List Nat → List Sv
  | [] => ρ
  | v :: vs => (wipeA ρ vs).set v .un
def restA (ρ0 ρ3 : List Sv) : List Nat → List Sv
  | [] => ρ3
  | v :: vs => (restA ρ0 ρ3 vs).set v (ρ0.getD v .un)
theorem noOwn.ne {ρ : List Sv} {i : Nat} (h : noOwn ρ i) {b : Bool} {xs : List D} : ρ[i]? ≠ some (.own b xs) := fun e => by
  unfold noOwn at h
  rw [e] at h
  exact h
theorem noOwn.nt {ρ : List Sv} {i : Nat} (h : noOwn ρ i) {t : Tr} : ρ[i]? ≠ some (.tre t) := fun e => by
  unfold noOwn at h
  rw [e] at h
  exact h
theorem restA_out {ρ0 ρ3 : List Sv} {i : Nat} : ∀ {vs : List Nat}, i ∉ vs → (restA ρ0 ρ3 vs)[i]? = ρ3[i]?
  | [], _ => rfl
  | v :: vs, h => by
    simp only [List.mem_cons, not_or] at h
    unfold restA
    rw [set_ne h.1]
    exact restA_out h.2
theorem restA_in {ρ0 ρ3 : List Sv} {i : Nat} {s : Sv} : ∀ {vs : List Nat}, i ∈ vs → (restA ρ0 ρ3 vs)[i]? = some s → s = ρ0.getD i .un
  | v :: vs, h, e => by
    unfold restA at e
    rcases get_set e with ⟨rfl, z⟩ | ⟨hj, e⟩
    · exact z
    · exact restA_in ((List.mem_cons.mp h).resolve_left hj) e
theorem restA_len {ρ0 ρ3 : List Sv} : ∀ {vs : List Nat}, (restA ρ0 ρ3 vs).length = ρ3.length
  | [] => rfl
  | v :: vs => by
    unfold restA
    rw [List.length_set]
    exact restA_len
section
variable {K : PySem.W.Frag} {P : List (Nat × Addr)} {G F G' F' : Hp} {ρ : List Sv} {σ : St} {H H' : Hp}
theorem Rel.wipe1 (R : Rel K P G F ρ σ H) {i : Nat} (h : noOwn ρ i) : Rel K P G F (ρ.set i .un) (σ.set i none) H := by
  refine ⟨by rw [List.length_set, List.length_set]; exact R.len, R.sg, R.sf, R.gf, fun j e q => ?_, fun j b ys q => ?_, fun j k a b ys c zs q1 q2 q3 q4 => ?_, fun p hp => ?_, fun j ys q => ?_, R.tr.setN (fun _ _ z => by cases z) fun _ z => by cases z⟩
  · rcases get_set q with ⟨_, z⟩ | ⟨hj, q⟩
    · cases z
    · rw [set_ne hj]
      exact R.dat j e q
  · rcases get_set q with ⟨_, z⟩ | ⟨hj, q⟩
    · cases z
    · rw [set_ne hj]
      exact R.own j b ys q
  · rcases get_set q1 with ⟨_, z⟩ | ⟨hj, q1⟩
    · cases z
    rcases get_set q2 with ⟨_, z⟩ | ⟨hk, q2⟩
    · cases z
    rw [set_ne hj] at q3
    rw [set_ne hk] at q4
    exact R.ne j k a b ys c zs q1 q2 q3 q4
  · obtain ⟨g1, zs, g2⟩ := R.pin p hp
    have hne : p.1 ≠ i := fun z => h.ne (by rw [← z]; exact g2)
    exact ⟨by rw [set_ne hne]; exact g1, zs, by rw [set_ne hne]; exact g2⟩
  · rcases get_set q with ⟨_, z⟩ | ⟨_, q⟩
    · cases z
    · exact R.pinc j ys q
theorem noOwn_set {ρ : List Sv} {i j : Nat} (h : noOwn ρ i) : noOwn (ρ.set j .un) i := by
  unfold noOwn
  cases e : (ρ.set j .un)[i]? with
  | none => trivial
  | some s =>
    rcases get_set e with ⟨_, z⟩ | ⟨_, q⟩
    · rw [z]; trivial
    · unfold noOwn at h
      rw [q] at h
      exact h
theorem noOwn_wipe {ρ : List Sv} {i : Nat} (h : noOwn ρ i) : ∀ vs : List Nat, noOwn (wipeA ρ vs) i
  | [] => h
  | v :: vs => noOwn_set (noOwn_wipe h vs)
theorem Rel.wipe (R : Rel K P G F ρ σ H) : ∀ {vs : List Nat}, (∀ i ∈ vs, noOwn ρ i) → Rel K P G F (wipeA ρ vs) (L2.wipe σ vs) H
  | [], _ => R
  | v :: vs, h => by
    unfold wipeA L2.wipe
    exact (R.wipe fun i hi => h i (List.mem_cons_of_mem _ hi)).wipe1 (noOwn_wipe (h v (List.mem_cons_self ..)) vs)
theorem Rel.rest {ρ0 ρ3 : List Sv} {σ2 : St} {G0 H0 : Hp} {vs : List Nat} (R0 : Rel K P G0 F' ρ0 σ H0) (R : Rel K P G F ρ3 σ2 H) (s : Same G0 G) (hw : L2.wipe σ2 vs = L2.wipe σ vs) (hn : ∀ i ∈ vs, noOwn ρ0 i) : Rel K P G F (restA ρ0 ρ3 vs) σ H := by
  have ho : ∀ {i : Nat}, i ∉ vs → σ2[i]? = σ[i]? := fun {i} hi => by
    rw [← wipe_out (σ := σ2) hi, ← wipe_out (σ := σ) hi, hw]
  have hl : ρ3.length = σ.length := by
    rw [R.len, ← wipe_length σ2 vs, ← wipe_length σ vs, hw]
  have own_out : ∀ {i : Nat} {b : Bool} {xs : List D}, (restA ρ0 ρ3 vs)[i]? = some (.own b xs) → i ∉ vs ∧ ρ3[i]? = some (.own b xs) := fun {i b xs} e => by
    by_cases hi : i ∈ vs
    · have z := restA_in hi e
      rw [List.getD_eq_getElem?_getD] at z
      cases q : ρ0[i]? with
      | none => rw [q] at z; cases z
      | some t => rw [q] at z; exact absurd (by rw [q]; exact congrArg some z.symm) (hn i hi).ne
    · rw [restA_out hi] at e
      exact ⟨hi, e⟩
  have tre_out : ∀ {i : Nat} {t : Tr}, (restA ρ0 ρ3 vs)[i]? = some (.tre t) → i ∉ vs ∧ ρ3[i]? = some (.tre t) := fun {i t} e => by
    by_cases hi : i ∈ vs
    · have z := restA_in hi e
      rw [List.getD_eq_getElem?_getD] at z
      cases q : ρ0[i]? with
      | none => rw [q] at z; cases z
      | some t => rw [q] at z; exact absurd (by rw [q]; exact congrArg some z.symm) (hn i hi).nt
    · rw [restA_out hi] at e
      exact ⟨hi, e⟩
  refine ⟨by rw [restA_len]; exact hl, R.sg, R.sf, R.gf, fun i d e => ?_, fun i b xs e => ?_, fun i j a b xs c ys e1 e2 e3 e4 => ?_, fun p hp => ?_, fun i xs e => ?_, R.tr.step (fun i t e => ⟨(tre_out e).2, by rw [ho (tre_out e).1]⟩) (Same.refl _) (fun i t a e ha => ?_) fun j c ys a i t e1 e2 e3 => ?_⟩
  · by_cases hi : i ∈ vs
    · have z := restA_in hi e
      rw [List.getD_eq_getElem?_getD] at z
      cases q : ρ0[i]? with
      | none => rw [q] at z; cases z
      | some t =>
        rw [q] at z
        obtain ⟨v, g1, g2⟩ := R0.dat i d (by rw [q]; exact congrArg some z.symm)
        exact ⟨v, g1, g2.mono s⟩
    · rw [restA_out hi] at e
      rw [← ho hi]
      exact R.dat i d e
  · obtain ⟨hi, e⟩ := own_out e
    rw [← ho hi]
    exact R.own i b xs e
  · obtain ⟨hi, e1⟩ := own_out e1
    obtain ⟨hj, e2⟩ := own_out e2
    rw [← ho hi] at e3
    rw [← ho hj] at e4
    exact R.ne i j a b xs c ys e1 e2 e3 e4
  · obtain ⟨g1, zs, g2⟩ := R.pin p hp
    obtain ⟨k1, ws, k2⟩ := R0.pin p hp
    have hi : p.1 ∉ vs := fun z => (hn _ z).ne k2
    exact ⟨k1, zs, by rw [restA_out hi]; exact g2⟩
  · obtain ⟨hi, e⟩ := own_out e
    exact R.pinc i xs e
  · obtain ⟨_, g2, g3⟩ := R.tr.ex (tre_out e).2 ha
    exact ⟨rfl, g2, g3⟩
  · obtain ⟨hj, e1⟩ := own_out e1
    rw [← ho hj] at e2
    exact R.tr.own i t j c ys a (tre_out e3).2 e1 e2
theorem Rel.frame (R : Rel K P G F ρ σ H) {p : Addr} {o : HO} (h : H p = none) : Rel K P G (upd F p o) ρ σ (upd H p o) where
  len := R.len
  sg := R.sg.trans (same_new h)
  sf := same_upd2 R.sf
  gf := fun a u e => by
    by_cases ha : a = p
    · rw [ha]; exact R.sg.free h
    · rw [upd_ne ha] at e; exact R.gf a u e
  dat := R.dat
  own := fun i b xs e => by
    obtain ⟨a, vs, h1, h2, h3, h4, h5⟩ := R.own i b xs e
    refine ⟨a, vs, h1, same_new h _ _ h2, h3, ?_, h5⟩
    rw [upd_ne (ne_of_none h2 h)]
    exact h4
  ne := R.ne
  pin := R.pin
  pinc := R.pinc
  tr := R.tr.same (Same.refl _) fun i t a e ha => by
    obtain ⟨⟨vs, g1⟩, g2, g3⟩ := R.tr.ex e ha
    have hne : a ≠ p := ne_of_none g1 h
    exact ⟨by rw [upd_ne hne], g2, by rw [upd_ne hne]; exact g3⟩
theorem Rel.bump {p : Addr} {o : HO} (R : Rel K P G (upd F p o) ρ σ H) (o' : HO) : Rel K P G (upd F p o') ρ σ (upd H p o') where
  len := R.len
  sg := fun a u e => by
    have hp := R.gf p o upd_same
    rw [upd_ne (ne_of_none e hp)]
    exact R.sg _ _ e
  sf := fun a u e => by
    by_cases ha : a = p
    · rw [ha, upd_same] at e; rw [ha, upd_same]; exact e
    · rw [upd_ne ha] at e; rw [upd_ne ha]; exact R.sf a u (by rw [upd_ne ha]; exact e)
  gf := fun a u e => by
    by_cases ha : a = p
    · rw [ha]; exact R.gf p o upd_same
    · rw [upd_ne ha] at e; exact R.gf a u (by rw [upd_ne ha]; exact e)
  dat := R.dat
  own := fun i b xs e => by
    obtain ⟨a, vs, h1, h2, h3, h4, h5⟩ := R.own i b xs e
    have ha : a ≠ p := fun z => by rw [z, upd_same] at h4; cases h4
    rw [upd_ne ha] at h4
    exact ⟨a, vs, h1, by rw [upd_ne ha]; exact h2, h3, by rw [upd_ne ha]; exact h4, h5⟩
  ne := R.ne
  pin := R.pin
  pinc := R.pinc
  tr := R.tr.same (Same.refl _) fun i t a e ha => by
    obtain ⟨_, g2, g3⟩ := R.tr.ex e ha
    have hne : a ≠ p := fun z => by rw [z, upd_same] at g3; cases g3
    rw [upd_ne hne] at g3
    exact ⟨by rw [upd_ne hne], g2, by rw [upd_ne hne]; exact g3⟩
theorem Rel.weakF (R : Rel K P G F' ρ σ H) (s : Same F F') : Rel K P G F ρ σ H where
  len := R.len
  sg := R.sg
  sf := s.trans R.sf
  gf := fun a u e => R.gf a u (s a u e)
  dat := R.dat
  own := fun i b xs e => by
    obtain ⟨a, vs, h1, h2, h3, h4, h5⟩ := R.own i b xs e
    exact ⟨a, vs, h1, h2, h3, s.free h4, h5⟩
  ne := R.ne
  pin := R.pin
  pinc := R.pinc
  tr := R.tr.same (Same.refl _) fun i t a e ha => by
    obtain ⟨_, g2, g3⟩ := R.tr.ex e ha
    exact ⟨rfl, g2, s.free g3⟩
end
/-! ### [elt for target in iter if ..] -/
def aComp (g : AG) (tt : AT) (te : AE) (vs : List Nat) (Q : List D → List Sv → Prop) : List D → List D → List Sv → Prop
  | [], acc, ρ => Q acc ρ
  | d :: ds, acc, ρ => g d (wipeA ρ vs) fun ρ1 => tt ρ1 (fun b ρ2 => if b = true then te ρ2 (fun y ρ3 => acc.length < sizeLine ∧ aComp g tt te vs Q ds (acc ++ [y]) (restA ρ ρ3 vs)) noX else aComp g tt te vs Q ds acc (restA ρ ρ2 vs)) noX
def oLc (ti : AI) (g : AG) (tt : AT) (te : AE) (vs : List Nat) : AO := fun ρ Q Z => ti ρ (fun ds ρ1 => (∀ i ∈ vs, noOwn ρ1 i) ∧ aComp g tt te vs Q ds [] ρ1) Z
/-- g stores only in the slots vs -/
def StoresIn (X : Cx) (tg : Expr) (vs : List Nat) (g : AG) : Prop := ∃ T : TG, PG X tg T ∧ ∀ P G F ρ σ H d v (Q : List Sv → Prop) (Q' : St → Hp → Prop), Rel X.K P G F ρ σ H → Rp X.K G d v → g d ρ Q → (∀ ρ' σ', Rel X.K P G F ρ' σ' H → wipe σ' vs = wipe σ vs → Q ρ' → Q' σ' H) → T v σ H Q'
theorem wipe_set {σ : St} {i : Nat} {x : Option V} : ∀ {vs : List Nat}, i ∈ vs → wipe (σ.set i x) vs = wipe σ vs
  | v :: vs, h => by
    unfold wipe
    by_cases e : i ∈ vs
    · rw [wipe_set e]
    · have hv : i = v := (List.mem_cons.mp h).resolve_right e
      subst hv
      refine List.ext_getElem? fun j => ?_
      by_cases hj : j = i
      · subst hj
        by_cases hl : j < σ.length
        · rw [set_eq (by rw [wipe_length, List.length_set]; exact hl), set_eq (by rw [wipe_length]; exact hl)]
        · rw [List.getElem?_eq_none (by rw [List.length_set, wipe_length, List.length_set]; omega), List.getElem?_eq_none (by rw [List.length_set, wipe_length]; omega)]
      · rw [set_ne hj, set_ne hj]
        by_cases hm : j ∈ vs
        · have f : ∀ (τ : St) (ws : List Nat), j ∈ ws → (wipe τ ws)[j]? = if j < τ.length then some none else none := fun τ ws hw => by
            induction ws with
            | nil => cases hw
            | cons w ws ih =>
              unfold wipe
              by_cases hw2 : j = w
              · subst hw2
                by_cases hl : j < τ.length
                · rw [if_pos hl, set_eq (by rw [wipe_length]; exact hl)]
                · rw [if_neg hl, List.getElem?_eq_none (by rw [List.length_set, wipe_length]; omega)]
              · rw [set_ne hw2]
                exact ih ((List.mem_cons.mp hw).resolve_left hw2)
          rw [f _ _ hm, f _ _ hm, List.length_set]
        · rw [wipe_out hm, wipe_out hm, set_ne hj]
theorem wipe_in {j : Nat} : ∀ {τ : St} {ws : List Nat}, j ∈ ws → (wipe τ ws)[j]? = if j < τ.length then some none else none := fun {τ ws} hw => by
  induction ws with
  | nil => cases hw
  | cons w ws ih =>
    unfold wipe
    by_cases hw2 : j = w
    · subst hw2
      by_cases hl : j < τ.length
      · rw [if_pos hl, set_eq (by rw [wipe_length]; exact hl)]
      · rw [if_neg hl, List.getElem?_eq_none (by rw [List.length_set, wipe_length]; omega)]
    · rw [set_ne hw2]
      exact ih ((List.mem_cons.mp hw).resolve_left hw2)
theorem wipe_twice {σ : St} {vs : List Nat} : wipe (wipe σ vs) vs = wipe σ vs := by
  refine List.ext_getElem? fun j => ?_
  by_cases hj : j ∈ vs
  · rw [wipe_in hj, wipe_in hj, wipe_length]
  · rw [wipe_out hj]
section
variable {X : Cx} {pos : Pos}
theorem si_name {i : Nat} {x : Str} {vs : List Nat} (hN : X.N.Nodup) (hi : X.N[i]? = some x := by rfl) (hx : Loc X.env.scope x := by first | exact .inl rfl | exact .inr rfl) (hf : X.fn x = true ∨ X.env.scope.names.lookup x = some .local := by first | exact .inl rfl | exact .inr rfl | assumption) (hm : i ∈ vs := by decide) : StoresIn X (.Name x pos) vs (agName i) := by
  refine ⟨_, pg_name hN hi hx hf, fun P G F ρ σ H d v Q Q' R rv ⟨ok, h⟩ hq => hq _ _ (R.setD ok rv) (wipe_set hm) h⟩
/-- several -/
def StoresIns (X : Cx) (ts : List Expr) (n : Nat) (vs : List Nat) (u : AGs) : Prop := (∃ T : TGs, PGs X ts T ∧ ∀ P G F ρ σ H ds ws (Q : List Sv → Prop) (Q' : St → Hp → Prop), Rel X.K P G F ρ σ H → RpL X.K G ds ws → u ds ρ Q → (∀ ρ' σ', Rel X.K P G F ρ' σ' H → wipe σ' vs = wipe σ vs → Q ρ' → Q' σ' H) → T ws σ H Q') ∧ ∀ ds ρ Q, u ds ρ Q → ds.length = n
theorem sis_nil {vs : List Nat} : StoresIns X [] 0 vs agNil := ⟨⟨_, pgs_nil, fun P G F ρ σ H ds ws Q Q' R rs ⟨e, h⟩ hq => by
  subst e
  exact ⟨rpl_nil.mp rs, hq _ _ R rfl h⟩⟩, fun ds ρ Q h => by rw [h.1]; rfl⟩
theorem sis_cons {e : Expr} {es : List Expr} {n : Nat} {vs : List Nat} {t : AG} {u : AGs} (h1 : StoresIn X e vs t) (h2 : StoresIns X es n vs u) (hs : (assignEach (e :: es) X.env).map (·.2) = assign e X.env :: (assignEach es X.env).map (·.2) := by rfl)
    (hm : ∀ d ρ Q, t d ρ Q → ∃ ρ1, Q ρ1) : StoresIns X (e :: es) (n + 1) vs (agCons t u) := by
  obtain ⟨T, p, r⟩ := h1
  obtain ⟨⟨U, p', r'⟩, hl⟩ := h2
  refine ⟨⟨_, pgs_cons p p' hs, fun P G F ρ σ H ds ws Q Q' R rs h hq => ?_⟩, fun ds ρ Q h => ?_⟩
  · cases ds with
    | nil => exact h.elim
    | cons d ds =>
      obtain ⟨v, w, rfl, rv, rw'⟩ := rpl_cons.mp rs
      exact ⟨v, w, rfl, r P G F ρ σ H d v _ _ R rv h fun ρ1 σ1 R1 w1 q1 => r' P G F ρ1 σ1 H ds w _ Q' R1 rw' q1 fun ρ2 σ2 R2 w2 q2 => hq ρ2 σ2 R2 (w2.trans w1) q2⟩
  · cases ds with
    | nil => exact h.elim
    | cons d ds =>
      obtain ⟨ρ1, q⟩ := hm _ _ _ h
      rw [List.length_cons, hl _ _ _ q]
theorem si_tup {es : List Expr} {k n : Nat} {vs : List Nat} {u : AGs} (hc : X.calm = true) (h : StoresIns X es n vs u) (hn : (assignEach es X.env).length = n := by rfl) (hst : (assignEach es X.env).findIdx? (·.1) = none := by rfl) : StoresIn X (.Tuple es k pos) vs (agTup u) := by
  obtain ⟨⟨T, p, r⟩, hl⟩ := h
  refine ⟨_, PG.or (pg_tup hc p hn hst) (pg_lst hc p hn hst), fun P G F ρ σ H d v Q Q' R rv h' hq => ?_⟩
  cases d <;> first | exact h'.elim | skip
  · obtain ⟨a, ws, rfl, h2, h3⟩ := rp_lst.mp rv
    exact .inr ⟨a, ws, rfl, R.sg.seq h2, by rw [← h3.length]; exact hl _ _ _ h', r P G F ρ σ H _ ws Q Q' R h3 h' hq⟩
  · obtain ⟨a, ws, rfl, h2, h3⟩ := rp_tup.mp rv
    exact .inl ⟨a, ws, rfl, Same.seqT R.sg h2, by rw [← h3.length]; exact hl _ _ _ h', r P G F ρ σ H _ ws Q Q' R h3 h' hq⟩
end
/-- the blocks of a comprehension in X -/
def fam (X : Cx) (scope : Scope) : Cx → Prop := fun Y => ∃ (s : Shared) (H : Hp) (C : Addr) (cl : List (Str × Addr)) (fp : List Addr), Y = X.blk s H scope (compEnvC scope cl C X.env) fp
section
variable {X : Cx} {W : WX} {pos : Pos} {elt tg iter : Expr} {ifs : List Expr} {scope : Scope} {ti : AI} {g : AG} {tt : AT} {te : AE} {vs : List Nat}
theorem lc_ref {T : TI} (hT : ∀ P G F ρ σ H (Q : List D → List Sv → Prop) (Z : KX) (R' : It → Hp → Prop), Rel X.K P G F ρ σ H → ti ρ Q Z → XIn X W P G F σ Z →
      (∀ G' ρ' H' J ds, Rel X.K P G' F ρ' σ H' → Same G G' → Walk X.K G' J ds → Q ds ρ' → R' J H') → T σ H R')
    (hg : ∀ Y, fam X scope Y → StoresIn Y tg vs g) (ht : ∀ Y, fam X scope Y → TXs Y noW ifs tt) (he : ∀ Y, fam X scope Y → EX Y noW elt te)
    {P : List (Nat × Addr)} {G F : Hp} {ρ : List Sv} {σ : St} {H : Hp} {Q : List D → List Sv → Prop} {Z : KX} {Q' : VK} (R : Rel X.K P G F ρ σ H) (h : oLc ti g tt te vs ρ Q Z) (hz : XIn X W P G F σ Z)
    (hq : ∀ G' ρ' H' a us xs, Rel X.K P G' F ρ' σ H' → Same G G' → H' a = some (.lst us) → G' a = none → F a = none → NoS ρ' σ a → RpL X.K G' xs us → Q xs ρ' → Q' (.ref a) H') :
    tLc T (wpG (fam X scope) tg) (wpTs (fam X scope) ifs) (wpE (fam X scope) elt) vs σ H Q' := by
  refine hT P G F ρ σ H _ Z _ R h hz fun G1 ρ1 H1 J ds R1 s1 wk ⟨hn, q⟩ => fun D hD => ?_
  have hFD : F D = none := R1.sf.free hD
  refine ⟨fun i m H' => ∃ G' ρ' us acc, Rel X.K P G' (upd F D (.lst us)) ρ' σ H' ∧ Same G1 G' ∧ m = ds.length - i ∧ i ≤ ds.length ∧ (∀ i ∈ vs, noOwn ρ' i) ∧ RpL X.K G' acc us ∧ aComp g tt te vs Q (ds.drop i) acc ρ', ⟨_, G1, ρ1, [], [], R1.frame hD, Same.refl _, rfl, Nat.zero_le _, hn, RpL.nil, q⟩, ?_⟩
  rintro i m H' ⟨G', ρ', us, acc, R', s', rfl, hi, hn', hr, q'⟩
  by_cases hlt : i < ds.length
  · refine .inr ⟨wk.go i H' (s'.trans R'.sg) hlt, fun H2 => ∃ G' ρ' us acc, Rel X.K P G' (upd F D (.lst us)) ρ' σ H2 ∧ Same G1 G' ∧ (∀ i ∈ vs, noOwn ρ' i) ∧ RpL X.K G' acc us ∧ aComp g tt te vs Q (ds.drop (i + 1)) acc ρ', fun H2 ⟨G2, ρ2, us2, acc2, R2, s2, n2, r2, q2⟩ => ⟨_, by omega, G2, ρ2, us2, acc2, R2, s2, rfl, hlt, n2, r2, q2⟩, fun x H2 y => ?_⟩
    rw [List.drop_eq_getElem_cons hlt] at q'
    obtain ⟨G2, gr, rv⟩ := wk.yld i G' H' H2 x ds[i] s' R'.sg (List.getElem?_eq_getElem hlt) y
    have R2 := R'.grow gr
    have nrest : ∀ ρ3 : List Sv, ∀ i ∈ vs, noOwn (restA ρ' ρ3 vs) i := fun ρ3 i hi => by
      unfold noOwn
      cases e : (restA ρ' ρ3 vs)[i]? with
      | none => trivial
      | some s =>
        have z := restA_in hi e
        rw [List.getD_eq_getElem?_getD] at z
        have k := hn' i hi
        unfold noOwn at k
        cases q : ρ'[i]? with
        | none => rw [q] at z; rw [z]; trivial
        | some t => rw [q] at z k; rw [z]; exact k
    intro Y hY pins s u I ru
    obtain ⟨T1, p1, r1⟩ := hg Y hY
    obtain ⟨_, _, _, _, _, eY⟩ := id hY
    have eK : Y.K = X.K := by rw [eY]
    refine p1.run pins s _ _ _ u _ I ru ?_
    refine r1 P G2 (upd F D (.lst us)) (wipeA ρ' vs) _ H2 _ x _ _ (by rw [eK]; exact R2.wipe hn') (by rw [eK]; exact rv) q' fun ρ3 σ3 R3 w3 q3 => ?_
    rw [eK] at R3
    refine ⟨by rw [w3]; exact wipe_twice, fun Y2 hY2 pins2 s2 I2 => ?_⟩
    obtain ⟨T2, p2, r2⟩ := (ht Y2 hY2).ex
    obtain ⟨_, _, _, _, _, eY2⟩ := id hY2
    have eK2 : Y2.K = X.K := by rw [eY2]
    refine p2.run pins2 s2 _ _ _ I2 ?_
    refine r2 P G2 (upd F D (.lst us)) ρ3 σ3 H2 _ noX _ (by rw [eK2]; exact R3) q3 xin_no fun G4 ρ4 H4 b R4 s4 q4 => ?_
    rw [eK2] at R4
    have s5 : Same G1 G4 := (s'.trans gr.j).trans s4
    have w4 : wipe σ3 vs = wipe σ vs := by rw [w3]; exact wipe_twice
    cases b with
    | false =>
      rw [if_neg Bool.false_ne_true] at q4
      exact iteF ⟨G4, _, us, acc, R2.rest R4 s4 w4 hn', s5, nrest ρ4, hr.mono (gr.j.trans s4), q4⟩
    | true =>
      rw [if_pos rfl] at q4
      refine iteT fun Y3 hY3 pins3 s3 I3 => ?_
      obtain ⟨T3, p3, r3⟩ := (he Y3 hY3).ex
      obtain ⟨_, _, _, _, _, eY3⟩ := id hY3
      have eK3 : Y3.K = X.K := by rw [eY3]
      refine p3.run pins3 s3 _ _ _ I3 ?_
      refine r3 P G4 (upd F D (.lst us)) ρ4 σ3 H4 _ noX _ (by rw [eK3]; exact R4) q4 xin_no fun G5 ρ5 H5 y d R5 s6 ry ⟨hz5, q5⟩ => ?_
      rw [eK3] at R5 ry
      have hr5 := hr.mono ((gr.j.trans s4).trans s6)
      refine ⟨us, R5.sf D _ upd_same, by rw [← hr5.length]; exact hz5, G5, _, us ++ [y], acc ++ [d], (R2.rest R5 (s4.trans s6) w4 hn').bump _, s5.trans s6, nrest ρ5, hr5.append (RpL.cons ry RpL.nil), q5⟩
  · have e : i = ds.length := by omega
    refine .inl ⟨wk.stop i H' (s'.trans R'.sg) (by omega), ?_⟩
    rw [e, List.drop_length] at q'
    have sF : Same F (upd F D (.lst us)) := same_new hFD
    refine hq G' ρ' H' D us acc (R'.weakF sF) (s1.trans s') (R'.sf D _ upd_same) (R'.gf D _ upd_same) hFD ⟨fun j b ys ej z => ?_, fun j t ej hb => ?_⟩ hr q'
    · obtain ⟨a, ws, k1, k2, k3, k4, k5⟩ := R'.own j b ys ej
      rw [z] at k1
      cases k1
      rw [upd_same] at k4
      cases k4
    · obtain ⟨_, _, g3⟩ := R'.tr.ex ej hb
      rw [upd_same] at g3
      cases g3
end
end VS
/-! VSi: comprehensions as rules; defs, calls, the law's end. -/
namespace VS
open PySem PySem.Spec PyProof.Rows L2
section
variable {X : Cx} {W : WX} {pos : Pos} {elt tg iter : Expr} {ifs : List Expr} {scope : Scope} {ti : AI} {g : AG} {tt : AT} {te : AE} {own : List (Str × Nat)} {vs : List Nat}
theorem o_lc (hc : X.calm = true) (hN : X.N.Nodup) (hi : IX X W tg iter ti) (ok : BlkOk X.N X.env.scope scope own)
    (hg : ∀ (s : Shared) (H : Hp) (C : Addr) (cl : List (Str × Addr)) (fp : List Addr), StoresIn (X.blk s H scope (compEnvC scope cl C X.env) fp) tg vs g)
    (ht : ∀ (s : Shared) (H : Hp) (C : Addr) (cl : List (Str × Addr)) (fp : List Addr), TXs (X.blk s H scope (compEnvC scope cl C X.env) fp) noW ifs tt)
    (he : ∀ (s : Shared) (H : Hp) (C : Addr) (cl : List (Str × Addr)) (fp : List Addr), EX (X.blk s H scope (compEnvC scope cl C X.env) fp) noW elt te)
    (hs : ∀ x, foldedSetIterable iter X.env x = pure x := by intro _; rfl) (hv : own.map (·.2) = vs := by rfl) : EO X W (.ListComp elt [⟨tg, iter, ifs, 0⟩] scope pos) (oLc ti g tt te vs) := by
  obtain ⟨T, p, r⟩ := hi.ex
  subst hv
  refine ⟨_, pe_lc hc hN p ok (fun s H C cl fp => pg_wp (C := fam X scope) ⟨s, H, C, cl, fp, rfl⟩) (fun s H C cl fp => pts_wp (C := fam X scope) ⟨s, H, C, cl, fp, rfl⟩) (fun s H C cl fp => pe_wp (C := fam X scope) ⟨s, H, C, cl, fp, rfl⟩) hs, fun P G F ρ σ H Q Z Q' R h hz hq => ?_⟩
  exact lc_ref r (fun Y ⟨s, H, C, cl, fp, e⟩ => by rw [e]; exact hg s H C cl fp) (fun Y ⟨s, H, C, cl, fp, e⟩ => by rw [e]; exact ht s H C cl fp) (fun Y ⟨s, H, C, cl, fp, e⟩ => by rw [e]; exact he s H C cl fp) R h hz hq
/-- the same, the list from now on data -/
theorem s_setLcD {i : Nat} {y : Str} {py spos : Pos} (hc : X.calm = true) (hN : X.N.Nodup) (hi : IX X W tg iter ti) (ok : BlkOk X.N X.env.scope scope own)
    (hg : ∀ (s : Shared) (H : Hp) (C : Addr) (cl : List (Str × Addr)) (fp : List Addr), StoresIn (X.blk s H scope (compEnvC scope cl C X.env) fp) tg vs g)
    (ht : ∀ (s : Shared) (H : Hp) (C : Addr) (cl : List (Str × Addr)) (fp : List Addr), TXs (X.blk s H scope (compEnvC scope cl C X.env) fp) noW ifs tt)
    (he : ∀ (s : Shared) (H : Hp) (C : Addr) (cl : List (Str × Addr)) (fp : List Addr), EX (X.blk s H scope (compEnvC scope cl C X.env) fp) noW elt te)
    (hy : X.N[i]? = some y := by rfl) (hyl : X.env.scope.names.lookup y = some .local := by rfl) (hsw : swapsWith (.ListComp elt [⟨tg, iter, ifs, 0⟩] scope pos) (some (.Name y py)) spos.line X.env = pure true := by exact sw_true rfl rfl rfl (by decide +kernel))
    (hs : ∀ x, foldedSetIterable iter X.env x = pure x := by intro _; rfl) (hv : own.map (·.2) = vs := by rfl) : SX X W (.Assign [.Name y py] (.ListComp elt [⟨tg, iter, ifs, 0⟩] scope pos) spos) (sAsg (aFrz (oLc ti g tt te vs)) (agName i)) := by
  obtain ⟨T, p, r⟩ := hi.ex
  subst hv
  refine ⟨_, ps_setLc hc hN hy hyl hsw p ok (fun s H C cl fp => pg_wp (C := fam X scope) ⟨s, H, C, cl, fp, rfl⟩) (fun s H C cl fp => pts_wp (C := fam X scope) ⟨s, H, C, cl, fp, rfl⟩) (fun s H C cl fp => pe_wp (C := fam X scope) ⟨s, H, C, cl, fp, rfl⟩) hs, fun P G F ρ σ H D D' R h hd => ?_⟩
  refine lc_ref r (fun Y ⟨s, H, C, cl, fp, e⟩ => by rw [e]; exact hg s H C cl fp) (fun Y ⟨s, H, C, cl, fp, e⟩ => by rw [e]; exact ht s H C cl fp) (fun Y ⟨s, H, C, cl, fp, e⟩ => by rw [e]; exact he s H C cl fp) R h (hd.xx σ)
    fun G1 ρ1 H1 a us xs R1 s1 h2 h3 h4 hn hr ⟨ok, q⟩ => ?_
  have sG : Same G1 (upd G1 a (.lst us)) := same_new h3
  exact hd.nx _ _ _ H1 ((R1.keep h2 h3 h4 hn).setD ok (rp_lst.mpr ⟨a, us, rfl, SqL.of upd_same, hr.mono sG⟩)) (s1.trans sG) q
end
/-! ### what a def promises -/
/-- from the parameters: what is wanted of the result and of the parameters behind, what of an exception -/
abbrev Ctr := List Sv → (Sv → List Sv → Prop) → (Exc → List Sv → Prop) → Prop
/-- behind the def: what was lent stands as ρp says -/
structure Back (K : PySem.W.Frag) (P : List (Nat × Addr)) (G F : Hp) (ρp : List Sv) (H : Hp) : Prop where
  sg : Same G H
  sf : Same F H
  gf : ∀ a o, F a = some o → G a = none
  io : ∀ p ∈ P, ∃ xs vs, ρp[p.1]? = some (.own true xs) ∧ H p.2 = some (.lst vs) ∧ G p.2 = none ∧ RpL K G xs vs
  tr : ∀ (i : Nat) (t : Tr), ρp[i]? = some (.tre t) → ∃ v, TRt K G H t v ∧ t.foot.Nodup ∧ ∀ a ∈ t.foot, G a = none ∧ F a = none
  dj : ∀ p ∈ P, ∀ (i : Nat) (t : Tr), ρp[i]? = some (.tre t) → p.2 ∉ t.foot
def spV (K : PySem.W.Frag) (n : Nat) (c : Ctr) : Sp := fun vs H Q E => vs.length = n ∧ ∃ (P : List (Nat × Addr)) (G F : Hp) (ρ : List Sv) (Qa : Sv → List Sv → Prop) (Za : Exc → List Sv → Prop),
  Rel K P G F ρ (vs.map some) H ∧ c ρ Qa Za ∧
  (∀ G' ρp H' r v, Back K P G' F ρp H' → Same G G' → Rr K P G' F r v H' → Qa r ρp → Q v H') ∧
  (∀ G' ρp H' x cls d, Back K P G' F ρp H' → Same G G' → ExcIs K G' H' x cls d → Za x ρp → E cls d H')
/-- a def at f keeps its contract, at surroundings with room for k calls where nothing is being shown -/
structure FnG (P : Program) (w : World) (K : PySem.W.Frag) (mg : Str → Option Value) (base : Heap) (k : Nat) (f : Addr) (fd : FuncData) (ps : List Str) (sp : Sp) : Prop where
  len : ∀ vs H Q E, sp vs H Q E → vs.length = ps.length
  run : ∀ (A : Around) (outer : List Env) (s : Shared) (H : Hp) (args : Args) (us : List Value) (vs : List V) (Q : VK) (E : XK), Room k A → A.guards = some [] → Env0 P w K mg base A outer s H → BindsTo s fd args (ps.zip us) → Vals vs us → sp vs H Q E →
    codeAny (model P w) A (.call (.ref f) args) (CR (L2N.CX P w) (outer) P w H s Q E) s
theorem FnG.mono {P : Program} {w : World} {K : PySem.W.Frag} {mg : Str → Option Value} {base : Heap} {j k : Nat} {f : Addr} {fd : FuncData} {ps : List Str} {sp : Sp} (F : FnG P w K mg base j f fd ps sp) (h : j ≤ k) : FnG P w K mg base k f fd ps sp :=
  ⟨F.len, fun A o s H ar us vs Q E r => F.run A o s H ar us vs Q E (r.mono h)⟩
section
variable {P : Program} {w : World} {K : PySem.W.Frag} {mg : Str → Option Value} {base : Heap} {x qual : Str} {params : Arguments} {body : List Stmt} {scope : Scope} {dvs : List V} {kws : List (Str × V)} {f : Addr} {fd : FuncData}
/-- a def by its body -/
theorem FnG.of {N ps : List Str} {k : Nat} {sp : Sp} (F : FunD K x qual params body scope dvs kws f fd) (S : FnScope N ps scope) (hsys : ∃ o es ep, base.get? sysModules = some o ∧ o.data = .dict es ep) (len : ∀ vs H Q E, sp vs H Q E → vs.length = ps.length)
    (hb : ∀ (cdv : Value) (A : Around) (ou : List Env) (s : Shared) (H : Hp) (vs : List V) (Q : VK) (E : XK), Run k (cxOf (L2N.CX P w) P w K mg base N qual scope f cdv A ou s H E) → sp vs H Q E →
      ∃ t, PSs (cxOf (L2N.CX P w) P w K mg base N qual scope f cdv A ou s H E) body t ∧ t { nx := fun _ H1 => Q .non H1, rt := Q } (start N vs) H) : FnG P w K mg base (k + 1) f fd ps sp := by
  obtain ⟨oc, od, dV, kV, doc, pm, an, cdv, ct, osl, e, lk, hcd, _, _⟩ := F.ex
  subst e
  refine ⟨len, fun A ou s H ar us vs Q E hr hgd e0 hbi r hsp => ?_⟩
  have hl := len _ _ _ _ hsp
  have inK : K.In s.heap := e0.mod.kin.keeps fun b o z => (e0.bs b o z).1
  have noL : s.heap.NoLimit := e0.mod.nolimit.keeps fun b o z => (e0.bs b o z).1
  have kinds : ∀ y ∈ ps.zip us, scope.names.lookup y.1 = some .local ∨ (scope.names.lookup y.1 = some .cell ∧ ((cellsFrom (s.heap.objs.size + 1) scope.names []).lookup y.1).isSome = true) := by
    rintro ⟨n, v⟩ hy
    rcases S.par n (List.of_mem_zip hy).1 with q | q
    · exact Or.inl q
    · exact Or.inr ⟨q, W.cellsFrom_some _ _ _ (Or.inl q)⟩
  refine codeAny_call_function hr.depth (inK _ _ lk) rfl S.co S.gen rfl (W.codeRec_of inK hcd) (hbi _ _ _ _ ?_)
  refine wpAny_newFunctionEnv_cells S.kind kinds fun env he s1 inC => ?_
  subst he
  refine ⟨noL.keeps inC.toInCall.keep, codeAny_func ?_⟩
  have rn : Run k (cxOf (L2N.CX P w) P w K mg base N qual scope f cdv A ou s H E) := ⟨hr.deeper _, hgd, hsys⟩
  obtain ⟨t, ht, hq⟩ := hb cdv A ou s H vs Q E rn hsp
  have J0 := inv_start (CX := L2N.CX P w) (mg := mg) (E := E) S hr.hd e0 hl r inC
  refine wpAny_mono (ht.run [] s1 (start N vs) H _ J0 hq) (fun fl s' hs => ?_) fun _ _ z => z
  cases fl with
  | ret u =>
    obtain ⟨v, σ', H', J, rv, q⟩ := hs
    exact ⟨v, H', J.os, J.bare, J.base, J.hok, rv, q⟩
  | next =>
    obtain ⟨σ', H', J, q⟩ := hs
    exact ⟨V.non, H', J.os, J.bare, J.base, J.hok, rfl, q⟩
  | brk => obtain ⟨_, _, _, q⟩ := hs; exact q.elim
  | cont => obtain ⟨_, _, _, q⟩ := hs; exact q.elim
end
/-- the slots of a body at its entry -/
def startA (n : Nat) (ρ : List Sv) : List Sv := ρ ++ List.replicate (n - ρ.length) .un
theorem Rel.startS {K : PySem.W.Frag} {P : List (Nat × Addr)} {G F : Hp} {ρ : List Sv} {vs : List V} {H : Hp} {N : List Str} (R : Rel K P G F ρ (vs.map some) H) : Rel K P G F (startA N.length ρ) (L2.start N vs) H := by
  have hl : ρ.length = vs.length := by have := R.len; rwa [List.length_map] at this
  have g1 : ∀ {i : Nat} {s : Sv}, s ≠ .un → (startA N.length ρ)[i]? = some s → ρ[i]? = some s := fun {i s} hs e => by
    unfold startA at e
    by_cases hi : i < ρ.length
    · rwa [List.getElem?_append_left hi] at e
    · rw [List.getElem?_append_right (by omega), List.getElem?_replicate] at e
      split at e
      · exact absurd (Option.some.inj e).symm hs
      · cases e
  have g2 : ∀ {i : Nat} {v : V}, (vs.map some)[i]? = some (some v) → (L2.start N vs)[i]? = some (some v) := fun {i v} e => by
    unfold L2.start
    rw [List.getElem?_append_left (by
      by_cases h : i < (vs.map some).length
      · exact h
      · rw [List.getElem?_eq_none (by omega)] at e; cases e)]
    exact e
  have g3 : ∀ {i : Nat} {s : Sv} {v : V}, ρ[i]? = some s → (L2.start N vs)[i]? = some (some v) → (vs.map some)[i]? = some (some v) := fun {i s v} e q => by
    have hi : i < (vs.map some).length := by
      rw [List.length_map, ← hl]
      exact (List.getElem?_eq_some_iff.mp e).1
    unfold L2.start at q
    rwa [List.getElem?_append_left hi] at q
  refine ⟨by unfold startA L2.start; rw [List.length_append, List.length_append, List.length_replicate, List.length_replicate, List.length_map, hl], R.sg, R.sf, R.gf, fun i d e => ?_, fun i b xs e => ?_, fun i j a b xs c ys e1 e2 e3 e4 => ?_, fun p hp => ?_, fun i xs e => ?_, R.tr.step (fun i t e => ?_) (Same.refl _) (fun i t a e ha => ?_) fun j c ys a i t e1 e2 e3 => ?_⟩
  · obtain ⟨v, k1, k2⟩ := R.dat i d (g1 (by simp) e)
    exact ⟨v, g2 k1, k2⟩
  · obtain ⟨a, us, k1, k2⟩ := R.own i b xs (g1 (by simp) e)
    exact ⟨a, us, g2 k1, k2⟩
  · have e1 := g1 (by simp) e1
    have e2 := g1 (by simp) e2
    exact R.ne i j a b xs c ys e1 e2 (g3 e1 e3) (g3 e2 e4)
  · obtain ⟨k1, xs, k2⟩ := R.pin p hp
    refine ⟨g2 k1, xs, ?_⟩
    unfold startA
    rw [List.getElem?_append_left (List.getElem?_eq_some_iff.mp k2).1]
    exact k2
  · exact R.pinc i xs (g1 (by simp) e)
  · have e' := g1 (by simp) e
    obtain ⟨v, h1, _⟩ := R.tr.got i t e'
    exact ⟨e', by rw [g2 h1, h1]⟩
  · obtain ⟨_, k2, k3⟩ := R.tr.ex (g1 (by simp) e) ha
    exact ⟨rfl, k2, k3⟩
  · have e1 := g1 (by simp) e1
    exact R.tr.own i t j c ys a (g1 (by simp) e3) e1 (g3 e1 e2)
theorem Back.of {K : PySem.W.Frag} {P : List (Nat × Addr)} {G F : Hp} {ρ : List Sv} {σ : St} {H : Hp} {n : Nat} (R : Rel K P G F ρ σ H) (hn : ∀ p ∈ P, p.1 < n) : Back K P G F (ρ.take n) H := by
  have trs : ∀ {i : Nat} {t : Tr}, (ρ.take n)[i]? = some (.tre t) → ρ[i]? = some (.tre t) := fun {i t} e => by
    have hi : i < n := by
      have := (List.getElem?_eq_some_iff.mp e).1
      rw [List.length_take] at this
      omega
    rwa [List.getElem?_take_of_lt hi] at e
  refine ⟨R.sg, R.sf, R.gf, fun p hp => ?_, fun i t e => ?_, fun p hp i t e => by
    obtain ⟨k1, xs, k2⟩ := R.pin p hp
    exact R.tr.own i t p.1 true xs p.2 (trs e) k2 k1⟩
  rotate_left
  · have hi : i < n := by
      have := (List.getElem?_eq_some_iff.mp e).1
      rw [List.length_take] at this
      omega
    rw [List.getElem?_take_of_lt hi] at e
    obtain ⟨v, -, h2, h3, h4⟩ := R.tr.got i t e
    exact ⟨v, h2, h3, h4⟩
  obtain ⟨k1, xs, k2⟩ := R.pin p hp
  obtain ⟨a, vs, g1, g2, g3, g4, g5⟩ := R.own _ _ _ k2
  rw [k1] at g1
  cases g1
  exact ⟨xs, vs, by rw [List.getElem?_take_of_lt (hn p hp)]; exact k2, g2, g3, g5⟩
section
variable {P : Program} {w : World} {K : PySem.W.Frag} {mg : Str → Option Value} {base : Heap} {x qual : Str} {params : Arguments} {body : List Stmt} {scope : Scope} {dvs : List V} {kws : List (Str × V)} {f : Addr} {fd : FuncData}
/-- THE RULE for a def: its body as a term of these rules, and what the term says -/
theorem ok_fn {N ps : List Str} {k : Nat} {c : Ctr} {t : AS} (F : FunD K x qual params body scope dvs kws f fd) (S : FnScope N ps scope) (hsys : ∃ o es ep, base.get? sysModules = some o ∧ o.data = .dict es ep)
    (hb : ∀ (cdv : Value) (A : Around) (ou : List Env) (s : Shared) (H : Hp) (E : XK), Run k (cxOf (L2N.CX P w) P w K mg base N qual scope f cdv A ou s H E) → PassesOwn (model P w) (cxOf (L2N.CX P w) P w K mg base N qual scope f cdv A ou s H E).A (cxOf (L2N.CX P w) P w K mg base N qual scope f cdv A ou s H E).env (cxOf (L2N.CX P w) P w K mg base N qual scope f cdv A ou s H E).xe →
      L2N.Takes (cxOf (L2N.CX P w) P w K mg base N qual scope f cdv A ou s H E) (fun cls d _ H => E cls d H) → SXs (cxOf (L2N.CX P w) P w K mg base N qual scope f cdv A ou s H E) (fun cls d _ H => E cls d H) body t)
    (hc : ∀ ρ Q Z, ρ.length = ps.length → c ρ Q Z → t { nx := fun ρ' => Q (.dat .non) (ρ'.take ps.length), rt := fun r ρ' => Q r (ρ'.take ps.length), xx := fun x ρ' => Z x (ρ'.take ps.length) } (startA N.length ρ)) :
    FnG P w K mg base (k + 1) f fd ps (spV K ps.length c) := by
  refine FnG.of F S hsys (fun vs H Q E h => h.1) fun cdv A ou s H vs Q E rn h => ?_
  obtain ⟨hl, PP, G, FF, ρ, Qa, Za, R, hca, hq, hx⟩ := h
  have hρ : ρ.length = ps.length := by have := R.len; rw [List.length_map] at this; omega
  obtain ⟨T, p, r⟩ := (hb cdv A ou s H E rn (passes_of rfl) (L2N.takes_of rfl rfl rfl rfl)).ex
  have hP : ∀ p ∈ PP, p.1 < ps.length := fun p hp => by
    obtain ⟨_, xs, k2⟩ := R.pin p hp
    rw [← hρ]
    exact (List.getElem?_eq_some_iff.mp k2).1
  refine ⟨T, p, r PP G FF _ _ H _ _ R.startS (hc ρ Qa Za hρ hca) ⟨fun G1 ρ1 σ1 H1 R1 s1 q => ?_, fun G1 ρ1 σ1 H1 r v R1 s1 rr q => ?_, fun _ _ _ _ _ _ q => q.elim, fun _ _ _ _ _ _ q => q.elim, fun σ1 G1 ρ1 H1 x cls d R1 s1 e q => ?_⟩⟩
  · exact hq G1 _ H1 (.dat .non) .non (Back.of R1 hP) s1 (show Rp K G1 .non .non from rp_non.mpr rfl) q
  · exact hq G1 _ H1 r v (Back.of R1 hP) s1 rr q
  · exact hx G1 _ H1 x cls d (Back.of R1 hP) s1 e q
end
end VS
/-! VSj: calls of the program's defs. -/
namespace VS
open PySem PySem.Spec PyProof.Rows L2
/-! ### arguments: data, or a list that is lent -/
inductive Ar where
  | dat (d : D) | io (i : Nat)
  /-- a tree that is lent -/
  | tr (i : Nat)
def ArR (K : PySem.W.Frag) (G : Hp) (σ : St) : Ar → V → Prop
  | .dat d, v => Rp K G d v
  | .io i, v => σ[i]? = some (some v)
  | .tr i, v => σ[i]? = some (some v)
def ArL (K : PySem.W.Frag) (G : Hp) (σ : St) : List Ar → List V → Prop
  | [], vs => vs = []
  | a :: as, vs => ∃ v r, vs = v :: r ∧ ArR K G σ a v ∧ ArL K G σ as r
section
variable {K : PySem.W.Frag} {G G' : Hp} {σ : St}
theorem ArR.mono (e : Same G G') : ∀ {a : Ar} {v : V}, ArR K G σ a v → ArR K G' σ a v
  | .dat _, _, h => Rp.mono e h
  | .io _, _, h => h
  | .tr _, _, h => h
theorem ArL.mono (e : Same G G') : ∀ {as : List Ar} {vs : List V}, ArL K G σ as vs → ArL K G' σ as vs
  | [], _, h => h
  | _ :: _, _, ⟨v, r, h1, h2, h3⟩ => ⟨v, r, h1, h2.mono e, h3.mono e⟩
theorem ArL.length : ∀ {as : List Ar} {vs : List V}, ArL K G σ as vs → as.length = vs.length
  | [], _, h => by rw [show _ = [] from h]; rfl
  | _ :: _, _, ⟨v, r, h1, h2, h3⟩ => by rw [h1, List.length_cons, List.length_cons, h3.length]
theorem ArL.get : ∀ {as : List Ar} {vs : List V} {i : Nat} {a : Ar}, ArL K G σ as vs → as[i]? = some a → ∃ v, vs[i]? = some v ∧ ArR K G σ a v
  | [], _, _, _, _, e => by simp at e
  | _ :: _, _, 0, _, ⟨v, r, h1, h2, h3⟩, e => by
    have e' := Option.some.inj e
    subst e' h1
    exact ⟨v, rfl, h2⟩
  | _ :: _, _, i + 1, _, ⟨v, r, h1, h2, h3⟩, e => by
    subst h1
    exact ArL.get (i := i) h3 e
end
def iosOf : List Ar → List Nat
  | [] => []
  | .dat _ :: as => iosOf as
  | .tr _ :: as => iosOf as
  | .io i :: as => i :: iosOf as
theorem mem_ios {i : Nat} : ∀ {as : List Ar}, i ∈ iosOf as ↔ ∃ j : Nat, as[j]? = some (Ar.io i)
  | [] => by simp [iosOf]
  | .dat d :: as => by
    simp only [iosOf]
    rw [mem_ios]
    constructor
    · rintro ⟨j, h⟩; exact ⟨j + 1, by simpa using h⟩
    · rintro ⟨j, h⟩
      cases j with
      | zero => simp at h
      | succ j => exact ⟨j, by simpa using h⟩
  | .tr m :: as => by
    simp only [iosOf]
    rw [mem_ios]
    constructor
    · rintro ⟨j, h⟩; exact ⟨j + 1, by simpa using h⟩
    · rintro ⟨j, h⟩
      cases j with
      | zero => simp at h
      | succ j => exact ⟨j, by simpa using h⟩
  | .io k :: as => by
    simp only [iosOf, List.mem_cons]
    rw [mem_ios]
    constructor
    · rintro (e | ⟨j, h⟩)
      · exact ⟨0, by rw [e]; rfl⟩
      · exact ⟨j + 1, by simpa using h⟩
    · rintro ⟨j, h⟩
      cases j with
      | zero => exact .inl (by simpa using (Option.some.inj h).symm)
      | succ j => exact .inr ⟨j, by simpa using h⟩
theorem ios_inj : ∀ {as : List Ar}, (iosOf as).Nodup → ∀ {j k i : Nat}, as[j]? = some (.io i) → as[k]? = some (.io i) → j = k
  | [], _, j, k, i, h, _ => by simp at h
  | .dat d :: as, hn, j, k, i, h1, h2 => by
    cases j with
    | zero => simp at h1
    | succ j =>
      cases k with
      | zero => simp at h2
      | succ k => exact congrArg Nat.succ (ios_inj (as := as) (i := i) hn (by simpa using h1) (by simpa using h2))
  | .tr d :: as, hn, j, k, i, h1, h2 => by
    cases j with
    | zero => simp at h1
    | succ j =>
      cases k with
      | zero => simp at h2
      | succ k => exact congrArg Nat.succ (ios_inj (as := as) (i := i) hn (by simpa using h1) (by simpa using h2))
  | .io m :: as, hn, j, k, i, h1, h2 => by
    simp only [iosOf, List.nodup_cons] at hn
    cases j with
    | zero =>
      cases k with
      | zero => rfl
      | succ k =>
        have e : m = i := by simpa using h1
        exact absurd (mem_ios.mpr ⟨k, by rw [e]; simpa using h2⟩) hn.1
    | succ j =>
      cases k with
      | zero =>
        have e : m = i := by simpa using h2
        exact absurd (mem_ios.mpr ⟨j, by rw [e]; simpa using h1⟩) hn.1
      | succ k => exact congrArg Nat.succ (ios_inj (as := as) (i := i) hn.2 (by simpa using h1) (by simpa using h2))
/-- the callee's parameters -/
def res (ρ : List Sv) : Ar → Sv
  | .dat d => .dat d
  | .tr _ => .un
  | .io i => match ρ[i]? with
    | some (.own _ xs) => .own true xs
    | _ => .un
theorem res_own {ρ : List Sv} {a : Ar} {b : Bool} {xs : List D} (h : res ρ a = .own b xs) : ∃ i c, a = .io i ∧ b = true ∧ ρ[i]? = some (.own c xs) := by
  cases a with
  | dat d => exact absurd (show Sv.dat d = .own b xs from h) (by simp)
  | tr _ => exact absurd (show Sv.un = .own b xs from h) (by simp)
  | io i =>
    have h' : (match ρ[i]? with | some (.own _ xs) => Sv.own true xs | _ => .un) = .own b xs := h
    split at h'
    · rename_i c ys ec
      cases h'
      exact ⟨i, c, rfl, rfl, ec⟩
    · cases h'
theorem res_dat {ρ : List Sv} {a : Ar} {d : D} (h : res ρ a = .dat d) : a = .dat d := by
  cases a with
  | dat e =>
    have h' : Sv.dat e = .dat d := h
    cases h'
    rfl
  | tr _ => exact absurd (show Sv.un = .dat d from h) (by simp)
  | io i =>
    have h' : (match ρ[i]? with | some (.own _ xs) => Sv.own true xs | _ => .un) = .dat d := h
    split at h' <;> cases h'
theorem res_tre {ρ : List Sv} {a : Ar} {t : Tr} (h : res ρ a = .tre t) : False := by
  cases a with
  | dat e => exact absurd (show Sv.dat e = .tre t from h) (by simp)
  | tr _ => exact absurd (show Sv.un = .tre t from h) (by simp)
  | io i =>
    have h' : (match ρ[i]? with | some (.own _ xs) => Sv.own true xs | _ => .un) = .tre t := h
    split at h' <;> cases h'
theorem res_io {ρ : List Sv} {i : Nat} {b : Bool} {xs : List D} (h : ρ[i]? = some (.own b xs)) : res ρ (.io i) = .own true xs := by
  show (match ρ[i]? with | some (.own _ xs) => Sv.own true xs | _ => .un) = .own true xs
  rw [h]
def setOwn (ρ : List Sv) (i : Nat) (xs : List D) : List Sv := match ρ[i]? with
  | some (.own b _) => ρ.set i (.own b xs)
  | _ => ρ
/-- the lent lists as they stand behind the call -/
def put (ρ : List Sv) : List Ar → List Sv → List Sv
  | .io i :: as, .own true xs :: ps => put (setOwn ρ i xs) as ps
  | _ :: as, _ :: ps => put ρ as ps
  | _, _ => ρ
theorem setOwn_len {ρ : List Sv} {i : Nat} {xs : List D} : (setOwn ρ i xs).length = ρ.length := by
  unfold setOwn
  split
  · rw [List.length_set]
  · rfl
theorem setOwn_get {ρ : List Sv} {i j : Nat} {xs : List D} {s : Sv} (h : (setOwn ρ i xs)[j]? = some s) : (j ≠ i ∧ ρ[j]? = some s) ∨ (j = i ∧ ((∃ b zs, ρ[j]? = some (.own b zs) ∧ s = .own b xs) ∨ (ρ[j]? = some s ∧ ∀ b zs, s ≠ .own b zs))) := by
  unfold setOwn at h
  split at h
  · rename_i b zs e
    rcases get_set h with ⟨rfl, z⟩ | ⟨hj, q⟩
    · exact .inr ⟨rfl, .inl ⟨b, zs, e, z⟩⟩
    · exact .inl ⟨hj, q⟩
  · rename_i hno
    by_cases e : j = i
    · subst e
      exact .inr ⟨rfl, .inr ⟨h, fun b zs z => hno b zs (by rw [h, z])⟩⟩
    · exact .inl ⟨e, h⟩
theorem setOwn_own {ρ : List Sv} {i j : Nat} {xs zs : List D} {b : Bool} (h : ρ[j]? = some (.own b zs)) : ∃ ys, (setOwn ρ i xs)[j]? = some (.own b ys) := by
  unfold setOwn
  split
  · rename_i b' ws e
    by_cases hj : j = i
    · subst hj
      rw [h] at e
      cases e
      exact ⟨xs, set_eq (List.getElem?_eq_some_iff.mp h).1⟩
    · exact ⟨zs, by rw [set_ne hj]; exact h⟩
  · exact ⟨zs, h⟩
theorem put_len : ∀ {as : List Ar} {ρ ps : List Sv}, (put ρ as ps).length = ρ.length
  | [], ρ, ps => by cases ps <;> rfl
  | a :: as, ρ, [] => by cases a <;> rfl
  | .dat d :: as, ρ, p :: ps => put_len (as := as)
  | .tr _ :: as, ρ, p :: ps => put_len (as := as)
  | .io i :: as, ρ, .un :: ps => put_len (as := as)
  | .io i :: as, ρ, .pr _ _ :: ps => put_len (as := as)
  | .io i :: as, ρ, .tre _ :: ps => put_len (as := as)
  | .io i :: as, ρ, .dat _ :: ps => put_len (as := as)
  | .io i :: as, ρ, .own false _ :: ps => put_len (as := as)
  | .io i :: as, ρ, .own true xs :: ps => (put_len (as := as)).trans setOwn_len
theorem put_own : ∀ {as : List Ar} {ρ ps : List Sv} {j : Nat} {zs : List D} {b : Bool}, ρ[j]? = some (.own b zs) → ∃ ys, (put ρ as ps)[j]? = some (.own b ys)
  | [], ρ, ps, j, zs, b, h => by cases ps <;> exact ⟨zs, h⟩
  | a :: as, ρ, [], j, zs, b, h => by cases a <;> exact ⟨zs, h⟩
  | .dat d :: as, ρ, p :: ps, j, zs, b, h => put_own (as := as) h
  | .tr _ :: as, ρ, p :: ps, j, zs, b, h => put_own (as := as) h
  | .io i :: as, ρ, .un :: ps, j, zs, b, h => put_own (as := as) h
  | .io i :: as, ρ, .pr _ _ :: ps, j, zs, b, h => put_own (as := as) h
  | .io i :: as, ρ, .tre _ :: ps, j, zs, b, h => put_own (as := as) h
  | .io i :: as, ρ, .dat _ :: ps, j, zs, b, h => put_own (as := as) h
  | .io i :: as, ρ, .own false _ :: ps, j, zs, b, h => put_own (as := as) h
  | .io i :: as, ρ, .own true xs :: ps, j, zs, b, h => by
    obtain ⟨ys, h'⟩ := setOwn_own (i := i) (xs := xs) h
    exact put_own (as := as) h'
/-- a slot behind: it was no list, or a list that was not lent, or one that was lent -/
theorem put_get : ∀ {as : List Ar} {ρ ps : List Sv} {j : Nat} {s : Sv}, (iosOf as).Nodup → (put ρ as ps)[j]? = some s → (∃ (k : Nat) (xs : List D) (b : Bool) (zs : List D), as[k]? = some (Ar.io j) ∧ ps[k]? = some (.own true xs) ∧ ρ[j]? = some (.own b zs) ∧ s = .own b xs) ∨ (ρ[j]? = some s ∧ ∀ (k : Nat) (xs : List D), as[k]? = some (Ar.io j) → ps[k]? = some (.own true xs) → ∀ b zs, s ≠ .own b zs)
  | [], ρ, ps, j, s, _, h => .inr ⟨by cases ps <;> exact h, fun k xs e => by simp at e⟩
  | a :: as, ρ, [], j, s, _, h => .inr ⟨by cases a <;> exact h, fun k xs _ e => by simp at e⟩
  | .dat d :: as, ρ, p :: ps, j, s, hn, h => by
    rcases put_get (as := as) hn h with ⟨k, xs, b, zs, h1, h2, h3, h4⟩ | ⟨h1, h2⟩
    · exact .inl ⟨k + 1, xs, b, zs, by simpa using h1, by simpa using h2, h3, h4⟩
    · refine .inr ⟨h1, fun k xs e1 e2 => ?_⟩
      cases k with
      | zero => simp at e1
      | succ k => exact h2 k xs (by simpa using e1) (by simpa using e2)
  | .tr _ :: as, ρ, p :: ps, j, s, hn, h => by
    rcases put_get (as := as) hn h with ⟨k, xs, b, zs, h1, h2, h3, h4⟩ | ⟨h1, h2⟩
    · exact .inl ⟨k + 1, xs, b, zs, by simpa using h1, by simpa using h2, h3, h4⟩
    · refine .inr ⟨h1, fun k xs e1 e2 => ?_⟩
      cases k with
      | zero => simp at e1
      | succ k => exact h2 k xs (by simpa using e1) (by simpa using e2)
  | .io i :: as, ρ, .un :: ps, j, s, hn, h => put_skip (fun _ z => by cases z) hn (put_get (as := as) (List.nodup_cons.mp hn).2 h)
  | .io i :: as, ρ, .pr _ _ :: ps, j, s, hn, h => put_skip (fun _ z => by cases z) hn (put_get (as := as) (List.nodup_cons.mp hn).2 h)
  | .io i :: as, ρ, .tre _ :: ps, j, s, hn, h => put_skip (fun _ z => by cases z) hn (put_get (as := as) (List.nodup_cons.mp hn).2 h)
  | .io i :: as, ρ, .dat _ :: ps, j, s, hn, h => put_skip (fun _ z => by cases z) hn (put_get (as := as) (List.nodup_cons.mp hn).2 h)
  | .io i :: as, ρ, .own false _ :: ps, j, s, hn, h => put_skip (fun _ z => by cases z) hn (put_get (as := as) (List.nodup_cons.mp hn).2 h)
  | .io i :: as, ρ, .own true xs :: ps, j, s, hn, h => by
    have hi : i ∉ iosOf as := (List.nodup_cons.mp hn).1
    rcases put_get (as := as) (List.nodup_cons.mp hn).2 (show (put (setOwn ρ i xs) as ps)[j]? = some s from h) with ⟨k, ys, b, zs, h1, h2, h3, h4⟩ | ⟨h1, h2⟩
    · have hji : j ≠ i := fun z => hi (mem_ios.mpr ⟨k, by rw [← z]; exact h1⟩)
      rcases setOwn_get h3 with ⟨_, q⟩ | ⟨q, _⟩
      · exact .inl ⟨k + 1, ys, b, zs, by simpa using h1, by simpa using h2, q, h4⟩
      · exact absurd q hji
    · rcases setOwn_get h1 with ⟨hji, q⟩ | ⟨rfl, ⟨b, zs, q, e⟩ | ⟨q, hno⟩⟩
      · refine .inr ⟨q, fun k ys e1 e2 => ?_⟩
        cases k with
        | zero => exact absurd (by simpa using e1 : i = j).symm hji
        | succ k => exact h2 k ys (by simpa using e1) (by simpa using e2)
      · exact .inl ⟨0, xs, b, zs, rfl, rfl, q, e⟩
      · exact .inr ⟨q, fun k ys _ _ => hno⟩
where
  put_skip {as : List Ar} {ρ ps : List Sv} {i j : Nat} {p s : Sv} (hp : ∀ xs, p ≠ .own true xs) (hn : (iosOf (.io i :: as)).Nodup)
      (h : (∃ (k : Nat) (xs : List D) (b : Bool) (zs : List D), as[k]? = some (Ar.io j) ∧ ps[k]? = some (.own true xs) ∧ ρ[j]? = some (.own b zs) ∧ s = .own b xs) ∨ (ρ[j]? = some s ∧ ∀ (k : Nat) (xs : List D), as[k]? = some (Ar.io j) → ps[k]? = some (.own true xs) → ∀ b zs, s ≠ .own b zs)) :
      (∃ (k : Nat) (xs : List D) (b : Bool) (zs : List D), (Ar.io i :: as)[k]? = some (Ar.io j) ∧ (p :: ps)[k]? = some (.own true xs) ∧ ρ[j]? = some (.own b zs) ∧ s = .own b xs) ∨ (ρ[j]? = some s ∧ ∀ (k : Nat) (xs : List D), (Ar.io i :: as)[k]? = some (Ar.io j) → (p :: ps)[k]? = some (.own true xs) → ∀ b zs, s ≠ .own b zs) := by
    rcases h with ⟨k, xs, b, zs, h1, h2, h3, h4⟩ | ⟨h1, h2⟩
    · exact .inl ⟨k + 1, xs, b, zs, by simpa using h1, by simpa using h2, h3, h4⟩
    · refine .inr ⟨h1, fun k xs e1 e2 => ?_⟩
      cases k with
      | zero => exact absurd (by simpa using e2) (hp xs)
      | succ k => exact h2 k xs (by simpa using e1) (by simpa using e2)
/-- where the lent lists stand -/
def pinL (σ : St) : Nat → List Ar → List (Nat × Addr)
  | _, [] => []
  | k, .dat _ :: as => pinL σ (k + 1) as
  | k, .tr _ :: as => pinL σ (k + 1) as
  | k, .io i :: as => match σ[i]? with
    | some (some (.ref a)) => (k, a) :: pinL σ (k + 1) as
    | _ => pinL σ (k + 1) as
theorem mem_pinL {σ : St} {p : Nat × Addr} : ∀ {as : List Ar} {k : Nat}, p ∈ pinL σ k as ↔ ∃ (j i : Nat), as[j]? = some (Ar.io i) ∧ σ[i]? = some (some (.ref p.2)) ∧ p.1 = k + j
  | [], k => by simp [pinL]
  | .dat d :: as, k => by
    simp only [pinL]
    rw [mem_pinL]
    constructor
    · rintro ⟨j, i, h1, h2, h3⟩; exact ⟨j + 1, i, by simpa using h1, h2, by omega⟩
    · rintro ⟨j, i, h1, h2, h3⟩
      cases j with
      | zero => simp at h1
      | succ j => exact ⟨j, i, by simpa using h1, h2, by omega⟩
  | .tr _ :: as, k => by
    simp only [pinL]
    rw [mem_pinL]
    constructor
    · rintro ⟨j, i, h1, h2, h3⟩; exact ⟨j + 1, i, by simpa using h1, h2, by omega⟩
    · rintro ⟨j, i, h1, h2, h3⟩
      cases j with
      | zero => simp at h1
      | succ j => exact ⟨j, i, by simpa using h1, h2, by omega⟩
  | .io m :: as, k => by
    have base : ∀ {a : Addr}, σ[m]? = some (some (.ref a)) → (p ∈ (k, a) :: pinL σ (k + 1) as ↔ ∃ (j i : Nat), (Ar.io m :: as)[j]? = some (Ar.io i) ∧ σ[i]? = some (some (.ref p.2)) ∧ p.1 = k + j) := fun {a} ea => by
      rw [List.mem_cons, mem_pinL]
      constructor
      · rintro (e | ⟨j, i, h1, h2, h3⟩)
        · subst e; exact ⟨0, m, rfl, ea, rfl⟩
        · exact ⟨j + 1, i, by simpa using h1, h2, by omega⟩
      · rintro ⟨j, i, h1, h2, h3⟩
        cases j with
        | zero =>
          have e : m = i := by simpa using h1
          subst e
          rw [ea] at h2
          obtain ⟨p1, p2⟩ := p
          simp only [Option.some.injEq, V.ref.injEq] at h2 h3
          exact .inl (by rw [h3, ← h2]; rfl)
        | succ j => exact .inr ⟨j, i, by simpa using h1, h2, by omega⟩
    simp only [pinL]
    split
    · rename_i a ea; exact base ea
    · rename_i hno
      rw [mem_pinL]
      constructor
      · rintro ⟨j, i, h1, h2, h3⟩; exact ⟨j + 1, i, by simpa using h1, h2, by omega⟩
      · rintro ⟨j, i, h1, h2, h3⟩
        cases j with
        | zero =>
          have e : m = i := by simpa using h1
          subst e
          exact absurd h2 (hno _)
        | succ j => exact ⟨j, i, by simpa using h1, h2, by omega⟩
open Classical in
/-- the caller's own lists that are not lent, and what stood apart before -/
noncomputable def frameOf (ρ : List Sv) (σ : St) (H F : Hp) (as : List Ar) : Hp := fun a =>
  if (∃ (j : Nat) (b : Bool) (xs : List D), ρ[j]? = some (.own b xs) ∧ σ[j]? = some (some (.ref a)) ∧ j ∉ iosOf as) ∨ ∃ (j : Nat) (t : Tr), ρ[j]? = some (.tre t) ∧ a ∈ t.foot then H a else F a
theorem frameOf_tre {ρ : List Sv} {σ : St} {H F : Hp} {as : List Ar} {a : Addr} {j : Nat} {t : Tr} (h1 : ρ[j]? = some (.tre t)) (h2 : a ∈ t.foot) : frameOf ρ σ H F as a = H a := by
  unfold frameOf
  rw [if_pos (.inr ⟨j, t, h1, h2⟩)]
theorem frameOf_yes {ρ : List Sv} {σ : St} {H F : Hp} {as : List Ar} {a : Addr} {j : Nat} {b : Bool} {xs : List D} (h1 : ρ[j]? = some (.own b xs)) (h2 : σ[j]? = some (some (.ref a))) (h3 : j ∉ iosOf as) : frameOf ρ σ H F as a = H a := by
  unfold frameOf
  rw [if_pos (.inl ⟨j, b, xs, h1, h2, h3⟩)]
theorem frameOf_no {ρ : List Sv} {σ : St} {H F : Hp} {as : List Ar} {a : Addr} (h : ¬ ((∃ (j : Nat) (b : Bool) (xs : List D), ρ[j]? = some (.own b xs) ∧ σ[j]? = some (some (.ref a)) ∧ j ∉ iosOf as) ∨ ∃ (j : Nat) (t : Tr), ρ[j]? = some (.tre t) ∧ a ∈ t.foot)) : frameOf ρ σ H F as a = F a := by
  unfold frameOf
  rw [if_neg h]
section
variable {K : PySem.W.Frag} {P : List (Nat × Addr)} {G F G' : Hp} {ρ : List Sv} {σ : St} {H H' : Hp} {as : List Ar}
theorem Rel.frameF (R : Rel K P G F ρ σ H) {a : Addr} {o : HO} (e : F a = some o) : frameOf ρ σ H F as a = some o := by
  rw [frameOf_no]
  · exact e
  · rintro (⟨j, b, xs, h1, h2, _⟩ | ⟨j, t, h1, h2⟩)
    · obtain ⟨c, vs, k1, _, _, k4, _⟩ := R.own j b xs h1
      rw [h2] at k1
      cases k1
      rw [e] at k4
      cases k4
    · obtain ⟨_, _, k4⟩ := R.tr.ex h1 h2
      rw [e] at k4
      cases k4
theorem Rel.frameN (R : Rel K P G F ρ σ H) {a : Addr} (e : frameOf ρ σ H F as a = none) : F a = none := by
  cases q : F a with
  | none => rfl
  | some o => rw [R.frameF q] at e; cases e
/-- what the callee meets -/
theorem Rel.lend (R : Rel K P G F ρ σ H) {vs : List V} (ha : ArL K G σ as vs) (ho : ∀ i ∈ iosOf as, isOwn ρ i) (hn : (iosOf as).Nodup) : Rel K (pinL σ 0 as) G (frameOf ρ σ H F as) (as.map (res ρ)) (vs.map some) H := by
  have atIo : ∀ {j : Nat} {b : Bool} {xs : List D}, (as.map (res ρ))[j]? = some (.own b xs) → b = true ∧ ∃ i c, as[j]? = some (Ar.io i) ∧ ρ[i]? = some (.own c xs) := fun {j b xs} e => by
    rw [List.getElem?_map] at e
    cases q : as[j]? with
    | none => rw [q] at e; cases e
    | some a =>
      rw [q] at e
      obtain ⟨i, c, h1, h2, h3⟩ := res_own (Option.some.inj e)
      exact ⟨h2, i, c, congrArg some h1, h3⟩
  have noT : ∀ {j : Nat} {t : Tr}, (as.map (res ρ))[j]? ≠ some (.tre t) := fun {j t} e => by
    rw [List.getElem?_map] at e
    cases q : as[j]? with
    | none => rw [q] at e; cases e
    | some a =>
      rw [q] at e
      exact res_tre (Option.some.inj e)
  refine ⟨by rw [List.length_map, List.length_map]; exact ha.length, R.sg, fun a o e => ?_, fun a o e => ?_, fun j d e => ?_, fun j b xs e => ?_, fun j k a b xs c ys e1 e2 e3 e4 => ?_, fun p hp => ?_, fun j xs e => ?_, ⟨fun i t e => absurd e noT, fun i t j c ys a e => absurd e noT, fun i t j u e => absurd e noT⟩⟩
  · by_cases h : (∃ (j : Nat) (b : Bool) (xs : List D), ρ[j]? = some (.own b xs) ∧ σ[j]? = some (some (.ref a)) ∧ j ∉ iosOf as) ∨ ∃ (j : Nat) (t : Tr), ρ[j]? = some (.tre t) ∧ a ∈ t.foot
    · rcases h with ⟨j, b, xs, h1, h2, h3⟩ | ⟨j, t, h1, h2⟩
      · rwa [frameOf_yes h1 h2 h3] at e
      · rwa [frameOf_tre h1 h2] at e
    · rw [frameOf_no h] at e
      exact R.sf a o e
  · by_cases h : (∃ (j : Nat) (b : Bool) (xs : List D), ρ[j]? = some (.own b xs) ∧ σ[j]? = some (some (.ref a)) ∧ j ∉ iosOf as) ∨ ∃ (j : Nat) (t : Tr), ρ[j]? = some (.tre t) ∧ a ∈ t.foot
    · rcases h with ⟨j, b, xs, h1, h2, h3⟩ | ⟨j, t, h1, h2⟩
      · obtain ⟨c, vs, k1, _, k3, _⟩ := R.own j b xs h1
        rw [h2] at k1
        cases k1
        exact k3
      · exact (R.tr.ex h1 h2).2.1
    · rw [frameOf_no h] at e
      exact R.gf a o e
  · rw [List.getElem?_map] at e
    cases q : as[j]? with
    | none => rw [q] at e; cases e
    | some a =>
      rw [q] at e
      have e' := res_dat (Option.some.inj e)
      rw [e'] at q
      obtain ⟨v, h1, h2⟩ := ha.get q
      exact ⟨v, by rw [List.getElem?_map, h1]; rfl, h2⟩
  · obtain ⟨_, i, c, q1, q2⟩ := atIo e
    obtain ⟨v, h1, h2⟩ := ha.get q1
    have h2' : σ[i]? = some (some v) := h2
    obtain ⟨a, us, k1, k2, k3, k4, k5⟩ := R.own i c xs q2
    rw [k1] at h2'
    cases h2'
    refine ⟨a, us, by rw [List.getElem?_map, h1]; rfl, k2, k3, ?_, k5⟩
    rw [frameOf_no]
    · exact k4
    · rintro (⟨j', b', xs', m1, m2, m3⟩ | ⟨j', t, m1, m2⟩)
      · have e' := R.ne j' i a _ _ _ _ m1 q2 m2 k1
        rw [e'] at m3
        exact m3 (mem_ios.mpr ⟨j, q1⟩)
      · exact R.tr.own j' t i c xs a m1 q2 k1 m2
  · obtain ⟨_, i1, c1, q1, q2⟩ := atIo e1
    obtain ⟨_, i2, c2, r1, r2⟩ := atIo e2
    obtain ⟨v1, h1, h2⟩ := ha.get q1
    obtain ⟨v2, h3, h4⟩ := ha.get r1
    rw [List.getElem?_map, h1] at e3
    rw [List.getElem?_map, h3] at e4
    cases e3
    cases e4
    have e' := R.ne i1 i2 a _ _ _ _ q2 r2 h2 h4
    rw [e'] at q1
    exact ios_inj hn q1 r1
  · obtain ⟨j, i, q1, q2, q3⟩ := mem_pinL.mp hp
    rw [Nat.zero_add] at q3
    obtain ⟨v, h1, h2⟩ := ha.get q1
    have h2' : σ[i]? = some (some v) := h2
    rw [q2] at h2'
    cases h2'
    obtain ⟨b, xs, hb⟩ := (ho i (mem_ios.mpr ⟨j, q1⟩)).ex
    refine ⟨by rw [q3, List.getElem?_map, h1]; rfl, xs, ?_⟩
    rw [q3, List.getElem?_map, q1]
    show some (res ρ (.io i)) = _
    rw [res_io hb]
  · obtain ⟨_, i, c, q1, q2⟩ := atIo e
    obtain ⟨a, us, k1, _⟩ := R.own i c xs q2
    exact ⟨a, mem_pinL.mpr ⟨j, i, q1, k1, by rw [Nat.zero_add]⟩⟩
/-- what the caller finds behind -/
theorem Rel.back (R : Rel K P G F ρ σ H) (ho : ∀ i ∈ iosOf as, isOwn ρ i) (hn : (iosOf as).Nodup) {ρp : List Sv} (B : Back K (pinL σ 0 as) G' (frameOf ρ σ H F as) ρp H') (s : Same G G') : Rel K P G' F (put ρ as ρp) σ H' := by
  have wasOwn : ∀ {i : Nat} {b : Bool} {xs : List D}, (put ρ as ρp)[i]? = some (.own b xs) → ∃ ys, ρ[i]? = some (.own b ys) := fun {i b xs} e => by
    rcases put_get hn e with ⟨k, ys, b', zs, h1, h2, h3, h4⟩ | ⟨h1, _⟩
    · cases h4
      exact ⟨zs, h3⟩
    · exact ⟨xs, h1⟩
  have wasTre : ∀ {i : Nat} {t : Tr}, (put ρ as ρp)[i]? = some (.tre t) → ρ[i]? = some (.tre t) := fun {i t} e => by
    rcases put_get hn e with ⟨k, ys, b', zs, h1, h2, h3, h4⟩ | ⟨h1, _⟩
    · cases h4
    · exact h1
  refine ⟨by rw [put_len]; exact R.len, B.sg, fun a o e => B.sf a o (R.frameF e), fun a o e => B.gf a o (R.frameF e), fun i d e => ?_, fun i b xs e => ?_, fun i j a b xs c ys e1 e2 => ?_, fun p hp => ?_, fun i xs e => ?_, R.tr.step (fun i t e => ⟨wasTre e, rfl⟩) s (fun i t a e ha => ?_) fun j c ys a i t e1 e2 e3 => ?_⟩
  · rcases put_get hn e with ⟨k, ys, b', zs, h1, h2, h3, h4⟩ | ⟨h1, _⟩
    · cases h4
    · obtain ⟨v, k1, k2⟩ := R.dat i d h1
      exact ⟨v, k1, k2.mono s⟩
  · obtain ⟨ys, hy⟩ := wasOwn e
    obtain ⟨a, us, k1, k2, k3, k4, k5⟩ := R.own i b ys hy
    by_cases hi : i ∈ iosOf as
    · obtain ⟨j, hj⟩ := mem_ios.mp hi
      obtain ⟨zs, ws, m1, m2, m3, m4⟩ := B.io (j, a) (mem_pinL.mpr ⟨j, i, hj, k1, by simp⟩)
      rcases put_get hn e with ⟨k, ys', b', zs', h1, h2, h3, h4⟩ | ⟨h1, h2⟩
      · cases h4
        have ek := ios_inj hn hj h1
        subst ek
        have m1' : ρp[j]? = some (.own true zs) := m1
        rw [h2] at m1'
        cases m1'
        exact ⟨a, ws, k1, m2, m3, k4, m4⟩
      · exact absurd rfl (h2 j zs hj m1 b xs)
    · rcases put_get hn e with ⟨k, ys', b', zs', h1, h2, h3, h4⟩ | ⟨h1, h2⟩
      · exact absurd (mem_ios.mpr ⟨k, h1⟩) hi
      · rw [hy] at h1
        cases h1
        have fa : frameOf ρ σ H F as a = some (.lst us) := by rw [frameOf_yes hy k1 hi]; exact k2
        exact ⟨a, us, k1, B.sf _ _ fa, B.gf _ _ fa, k4, k5.mono s⟩
  · obtain ⟨xs', h1⟩ := wasOwn e1
    obtain ⟨ys', h2⟩ := wasOwn e2
    exact R.ne i j a b xs' c ys' h1 h2
  · obtain ⟨k1, xs, k2⟩ := R.pin p hp
    obtain ⟨ys, k3⟩ := put_own (as := as) (ps := ρp) k2
    exact ⟨k1, ys, k3⟩
  · obtain ⟨ys, hy⟩ := wasOwn e
    exact R.pinc i ys hy
  · have e := wasTre e
    obtain ⟨⟨ov, k1⟩, k2, k3⟩ := R.tr.ex e ha
    have fa : frameOf ρ σ H F as a = some ov := by rw [frameOf_tre e ha]; exact k1
    exact ⟨by rw [k1]; exact B.sf _ _ fa, B.gf _ _ fa, k3⟩
  · obtain ⟨zs, hz⟩ := wasOwn e1
    exact R.tr.own i t j c zs a (wasTre e3) hz e2
theorem Rel.backOwn (R : Rel K P G F ρ σ H) (hn : (iosOf as).Nodup) {ρp : List Sv} {b : Bool} {xs : List D} {v : V} (r : Rr K (pinL σ 0 as) G' (frameOf ρ σ H F as) (.own b xs) v H') :
    ∃ a vs, v = .ref a ∧ H' a = some (.lst vs) ∧ G' a = none ∧ F a = none ∧ NoS (put ρ as ρp) σ a ∧ RpL K G' xs vs := by
  obtain ⟨a, vs, e, h1, h2, h3, h4, h5⟩ := r
  refine ⟨a, vs, e, h1, h2, R.frameN h3, ⟨fun i c ys q z => ?_, fun i t q hb => ?_⟩, h5⟩
  rotate_left
  · rcases put_get hn q with ⟨k, ys', b', zs, m1, m2, m3, m4⟩ | ⟨m1, _⟩
    · cases m4
    · rw [frameOf_tre m1 hb] at h3
      obtain ⟨⟨us, k1⟩, _⟩ := R.tr.ex m1 hb
      rw [k1] at h3
      cases h3
  have hy : ∃ zs, ρ[i]? = some (.own c zs) := by
    rcases put_get hn q with ⟨k, ys', b', zs, m1, m2, m3, m4⟩ | ⟨m1, _⟩
    · cases m4; exact ⟨zs, m3⟩
    · exact ⟨ys, m1⟩
  obtain ⟨zs, hz⟩ := hy
  by_cases hi : i ∈ iosOf as
  · obtain ⟨j, hj⟩ := mem_ios.mp hi
    exact h4 (j, a) (mem_pinL.mpr ⟨j, i, hj, z, by simp⟩) rfl
  · rw [frameOf_yes hz z hi] at h3
    obtain ⟨c', us, k1, k2, _⟩ := R.own i c zs hz
    rw [z] at k1
    cases k1
    rw [h3] at k2
    cases k2
end
end VS
/-! VSk: the call's rules; the law's end. -/
namespace VS
open PySem PySem.Spec PyProof.Rows L2
/-! ### argument lists that may lend -/
abbrev AAr := List Sv → (List Ar → List Sv → Prop) → KX → Prop
structure RX (X : Cx) (W : WX) (es : List Expr) (t : AAr) : Prop where
  ex : ∃ T : TA, PA X es T ∧ ∀ P G F ρ σ H (Q : List Ar → List Sv → Prop) (Z : KX) (Q' : List V → Hp → Prop), Rel X.K P G F ρ σ H → t ρ Q Z → XIn X W P G F σ Z →
    (∀ G' ρ' H' vs as, Rel X.K P G' F ρ' σ H' → Same G G' → ArL X.K G' σ as vs → as.length = es.length → Q as ρ' → Q' vs H') → T σ H Q'
def rNil : AAr := fun ρ Q _ => Q [] ρ
def rDat (t : AE) (u : AAr) : AAr := fun ρ Q Z => t ρ (fun d ρ1 => u ρ1 (fun as ρ2 => Q (.dat d :: as) ρ2) Z) Z
def rIo (i : Nat) (u : AAr) : AAr := fun ρ Q Z => isOwn ρ i ∧ u ρ (fun as ρ2 => Q (.io i :: as) ρ2) Z
section
variable {X : Cx} {W : WX} {pos p : Pos} {a : Expr} {es : List Expr} {ta : AE} {u : AAr}
theorem r_nil : RX X W [] rNil := ⟨_, pa_nil, fun P G F ρ σ H Q Z Q' R h hz hq => hq G ρ H [] [] R (Same.refl _) rfl rfl h⟩
theorem r_dat (ea : EX X W a ta) (k : RX X W es u) (hs : starEach (a :: es) X.env = (false, eval a X.env) :: starEach es X.env := by rfl) : RX X W (a :: es) (rDat ta u) := by
  obtain ⟨T, p, r⟩ := ea.ex
  obtain ⟨U, p', r'⟩ := k.ex
  refine ⟨_, pa_cons p p' hs, fun P G F ρ σ H Q Z Q' R h hz hq => ?_⟩
  refine r P G F ρ σ H _ Z _ R h hz fun G1 ρ1 H1 v d R1 s1 rv q => ?_
  exact r' P G1 F ρ1 σ H1 _ Z _ R1 q (hz.mono s1) fun G2 ρ2 H2 vs as R2 s2 rs hl q => hq G2 ρ2 H2 (v :: vs) (.dat d :: as) R2 (s1.trans s2) (show ArL X.K G2 σ (.dat d :: as) (v :: vs) from ⟨v, vs, rfl, rv.mono s2, rs⟩) (congrArg Nat.succ hl) q
theorem r_io (i : Nat) {x : Str} (k : RX X W es u) (hN : X.N[i]? = some x := by rfl) (hv : Vis X.env.scope x := by first | exact Or.inl rfl | exact Or.inr (Or.inl rfl) | exact Or.inr (Or.inr rfl)) (hd : (x == ("__debug__" : Str)) = false := by decide)
    (hcd : (x == ("__classdict__" : Str)) = false := by decide) (hs : starEach (.Name x p :: es) X.env = (false, eval (.Name x p) X.env) :: starEach es X.env := by rfl) : RX X W (.Name x p :: es) (rIo i u) := by
  obtain ⟨U, p', r'⟩ := k.ex
  refine ⟨_, pa_cons (pe_var hN hv hd hcd) p' hs, fun P G F ρ σ H Q Z Q' R ⟨h0, h⟩ hz hq => ?_⟩
  obtain ⟨b, xs, e⟩ := h0.ex
  obtain ⟨a, vs, g1, _⟩ := R.own i b xs e
  refine ⟨_, g1, r' P G F ρ σ H _ Z _ R h hz fun G2 ρ2 H2 vs as R2 s2 rs hl q => hq G2 ρ2 H2 (.ref a :: vs) (.io i :: as) R2 s2 (show ArL X.K G2 σ (.io i :: as) (.ref a :: vs) from ⟨_, vs, rfl, g1, rs⟩) (congrArg Nat.succ hl) q⟩
/-! ### the call itself -/
theorem run_g {k : Nat} {f : Addr} {fd : FuncData} {ps : List Str} {sp : Sp} {ds us : List Value} {dvs vs : List V} {pins : List (Addr × Obj)} {σ : St} {H : Hp} {s : Shared} {Q : VK} (F : FnG X.prog X.w X.K X.mg X.base k f fd ps sp) (rn : Run k X) (hb : Binds X.K fd ps ds) (hd : Vals dvs ds)
    (tk : L2N.Takes X W) (I : Inv X pins σ H s) (r : Vals vs us) (h : sp (vs ++ dvs) H Q (WE W σ)) : wpAny (model X.prog X.w) X.A (call (.ref f) us) (EP X pins σ Q) X.xe s := by
  have r2 := r.append hd
  have hl : (us ++ ds).length = ps.length := by rw [← r2.length, F.len _ _ _ _ h]
  refine wpAny_call (codeAny_mono (F.run X.A X.stack s H ⟨us, []⟩ _ _ Q (WE W σ) rn.hr rn.hg I.env0 (hb s us I.kIn hl) r2 h) fun z s' hq => ?_)
  match z, hq with
  | .error e, hq => exact L2N.passAt tk σ pins H s e s' I hq
  | .ok (.ret u), hq => exact I.after hq
theorem pe_g {k : Nat} {x : Str} {f : Addr} {fd : FuncData} {ps : List Str} {sp : Sp} {ds : List Value} {dvs : List V} {t : TA} (F : FnG X.prog X.w X.K X.mg X.base k f fd ps sp) (rn : Run k X) (hg : Gl X x) (hm : X.mg x = some (.ref f)) (hk : PySem.W.keepIn X.K (.ref f) = true) (hb : Binds X.K fd ps ds) (hd : Vals dvs ds)
    (tk : L2N.Takes X W) (ha : PA X (a :: es) t) (hdb : (x == ("__debug__" : Str)) = false := by decide) (he : starEach (a :: es) X.env = (false, eval a X.env) :: starEach es X.env := by rfl) (hpl : (backTo pos (starEach es X.env)).any (·.1) = false := by rfl) :
    PE X (.Call (.Name x p) (a :: es) [] pos) (fun σ H Q => t σ H fun vs H1 => sp (vs ++ dvs) H1 Q (WE W σ)) := by
  refine ⟨fun pins s σ H Q I h => wpAny_Call_Name_kw (ld_glob I hg hm ?_ hdb)⟩
  exact PySem.W.callWith_K (h₀ := X.base) I.ok.mod.kin hk (thn (ha.run pos pins s σ H _ I h) fun us s1 ⟨vs, H1, I1, r, q⟩ => ⟨I1.kIn, run_g F rn hb hd tk I1 r q⟩) he hpl
theorem pe_g0 {k : Nat} {x : Str} {f : Addr} {fd : FuncData} {ps : List Str} {sp : Sp} {ds : List Value} {dvs : List V} (F : FnG X.prog X.w X.K X.mg X.base k f fd ps sp) (rn : Run k X) (hg : Gl X x) (hm : X.mg x = some (.ref f)) (hk : PySem.W.keepIn X.K (.ref f) = true) (hb : Binds X.K fd ps ds) (hd : Vals dvs ds)
    (tk : L2N.Takes X W) (hdb : (x == ("__debug__" : Str)) = false := by decide) : PE X (.Call (.Name x p) [] [] pos) (fun σ H Q => sp dvs H Q (WE W σ)) := by
  refine ⟨fun pins s σ H Q I h => wpAny_Call_Name_kw (ld_glob I hg hm ?_ hdb)⟩
  exact PySem.W.callWith_K0 I.kIn hk (run_g (us := []) (vs := []) F rn hb hd tk I .nil h)
/-- what stands of a def: where it is, its contract -/
structure DefC (P : Program) (w : World) (K : PySem.W.Frag) (mg : Str → Option Value) (base : Heap) (k : Nat) (x : Str) (ps : List Str) (dds : List D) (c : Ctr) : Prop where
  ex : ∃ (f : Addr) (fd : FuncData) (ds : List Value) (dvs : List V), FnG P w K mg base k f fd ps (spV K ps.length c) ∧ mg x = some (.ref f) ∧ PySem.W.keepIn K (.ref f) = true ∧ Binds K fd ps ds ∧ Vals dvs ds ∧ ∀ G, RpL K G dds dvs
abbrev Def (X : Cx) (k : Nat) (x : Str) (ps : List Str) (dds : List D) (c : Ctr) : Prop := DefC X.prog X.w X.K X.mg X.base k x ps dds c
theorem Run.blk {X : Cx} {k : Nat} {s : Shared} {H : Hp} {scope : Scope} {cenv : Env} {fp : List Addr} (r : Run k X) : Run k (X.blk s H scope cenv fp) := ⟨r.hr, r.hg, r.hs⟩
theorem tk0 {X : Cx} : L2N.Takes X noW := fun u s' ⟨_, _, _, _, _, _, _, _, _, _, _, _, _, _, _, _, z⟩ => z.elim
theorem ArL.append {K : PySem.W.Frag} {G : Hp} {σ : St} : ∀ {as bs : List Ar} {vs us : List V}, ArL K G σ as vs → ArL K G σ bs us → ArL K G σ (as ++ bs) (vs ++ us)
  | [], _, _, _, h, k => by rw [show _ = [] from h]; exact k
  | _ :: _, _, _, _, ⟨v, r, h1, h2, h3⟩, k => ⟨v, _, by rw [h1]; rfl, h2, ArL.append h3 k⟩
theorem ArL.dats {K : PySem.W.Frag} {G : Hp} {σ : St} : ∀ {ds : List D} {vs : List V}, RpL K G ds vs → ArL K G σ (ds.map Ar.dat) vs
  | [], _, h => rpl_nil.mp h
  | d :: ds, _, h => by
    obtain ⟨v, r, h1, h2, h3⟩ := rpl_cons.mp h
    exact ⟨v, r, h1, h2, ArL.dats h3⟩
theorem ios_dats : ∀ (as : List Ar) (ds : List D), iosOf (as ++ ds.map Ar.dat) = iosOf as
  | [], [] => rfl
  | [], d :: ds => ios_dats [] ds
  | .dat _ :: as, ds => ios_dats as ds
  | .tr _ :: as, ds => ios_dats as ds
  | .io i :: as, ds => congrArg (i :: ·) (ios_dats as ds)
/-- the lent lists are there, each once -/
def lendOk (ρ : List Sv) (as : List Ar) : Prop := (∀ i ∈ iosOf as, isOwn ρ i) ∧ (iosOf as).Nodup
/-- a call: its result is data (an own list becomes data) -/
def aDef (c : Ctr) (dds : List D) (t : AAr) : AE := fun ρ Q Z => t ρ (fun as ρ1 => lendOk ρ1 as ∧ c ((as.map (res ρ1)) ++ dds.map .dat) (fun r ρp => match r with
  | .dat d => Q d (put ρ1 as ρp)
  | .own _ xs => Q (.lst xs) (put ρ1 as ρp)
  | _ => False) fun x ρp => Z x (put ρ1 as ρp)) Z
/-- a call that gives a list of its own -/
def oDef (c : Ctr) (dds : List D) (t : AAr) : AO := fun ρ Q Z => t ρ (fun as ρ1 => lendOk ρ1 as ∧ c ((as.map (res ρ1)) ++ dds.map .dat) (fun r ρp => match r with
  | .own _ xs => Q xs (put ρ1 as ρp)
  | _ => False) fun x ρp => Z x (put ρ1 as ρp)) Z
theorem put_dats {ρ : List Sv} : ∀ (as : List Ar) (ds : List D) (ρp : List Sv) , put ρ (as ++ ds.map Ar.dat) ρp = put ρ as ρp
  | [], [], ρp => rfl
  | [], d :: ds, [] => rfl
  | [], d :: ds, p :: ps => by
    show put ρ ([] ++ ds.map Ar.dat) ps = _
    rw [put_dats [] ds ps]
    cases ps <;> rfl
  | .dat _ :: as, ds, [] => rfl
  | .dat _ :: as, ds, p :: ps => put_dats as ds ps
  | .tr _ :: as, ds, [] => rfl
  | .tr _ :: as, ds, p :: ps => put_dats as ds ps
  | .io i :: as, ds, [] => rfl
  | .io i :: as, ds, .un :: ps => put_dats as ds ps
  | .io i :: as, ds, .pr _ _ :: ps => put_dats as ds ps
  | .io i :: as, ds, .tre _ :: ps => put_dats as ds ps
  | .io i :: as, ds, .dat _ :: ps => put_dats as ds ps
  | .io i :: as, ds, .own false _ :: ps => put_dats as ds ps
  | .io i :: as, ds, .own true xs :: ps => put_dats (ρ := setOwn ρ i xs) as ds ps
theorem map_dats {ρ : List Sv} (as : List Ar) (ds : List D) : (as ++ ds.map Ar.dat).map (res ρ) = as.map (res ρ) ++ ds.map .dat := by
  rw [List.map_append, List.map_map]
  rfl
/-- both kinds of calls -/
theorem call_core {x : Str} {ps : List Str} {dds : List D} {c : Ctr} {dvs : List V} {P : List (Nat × Addr)} {G F : Hp} {ρ : List Sv} {σ : St} {H : Hp} {as : List Ar} {vs : List V} {Q' : VK} {Qa : Sv → List Sv → Prop} {Za : Exc → List Sv → Prop} {Z : KX}
    (R : Rel X.K P G F ρ σ H) (hl : (vs ++ dvs).length = ps.length) (ha : ArL X.K G σ as vs) (hdd : ∀ G, RpL X.K G dds dvs) (ok : lendOk ρ as) (hc : c (as.map (res ρ) ++ dds.map .dat) Qa Za) (hz : XIn X W P G F σ Z) (hZ : ∀ x ρp, Za x ρp → Z x (put ρ as ρp))
    (hq : ∀ G' ρp H' r v, Rel X.K P G' F (put ρ as ρp) σ H' → Same G G' → (∀ d, r = .dat d → Rp X.K G' d v) → (∀ b xs, r = .own b xs → ∃ a us, v = .ref a ∧ H' a = some (.lst us) ∧ G' a = none ∧ F a = none ∧ (NoS (put ρ as ρp) σ a) ∧ RpL X.K G' xs us) → r ≠ .un → Qa r ρp → Q' v H') :
    spV X.K ps.length c (vs ++ dvs) H Q' (WE W σ) := by
  have ha2 : ArL X.K G σ (as ++ dds.map Ar.dat) (vs ++ dvs) := ha.append (ArL.dats (hdd G))
  have ok2 : lendOk ρ (as ++ dds.map Ar.dat) := by unfold lendOk; rw [ios_dats]; exact ok
  have R2 := R.lend ha2 ok2.1 ok2.2
  refine ⟨hl, _, G, _, _, Qa, Za, R2, by rw [map_dats]; exact hc, fun G' ρp H' r v B s rr q => ?_, fun G' ρp H' x cls d B s e q => ?_⟩
  · have R3 := R.back ok2.1 ok2.2 B s
    rw [put_dats] at R3
    refine hq G' ρp H' r v R3 s (fun d e => by rw [e] at rr; exact rr) (fun b xs e => ?_) (fun e => by rw [e] at rr; exact rr) q
    rw [e] at rr
    have z := R.backOwn ok2.2 (ρp := ρp) rr
    rw [put_dats] at z
    exact z
  · have R3 := R.back ok2.1 ok2.2 B s
    rw [put_dats] at R3
    exact hz G' _ H' x cls d R3 s e (hZ x ρp q)
theorem e_def {k : Nat} {x : Str} {ps : List Str} {dds : List D} {c : Ctr} (d : Def X k x ps dds c) (rn : Run k X) (tk : L2N.Takes X W) (hg : Gl X x) (ha : RX X W (a :: es) u) (hlen : (a :: es).length + dds.length = ps.length := by rfl) (hdb : (x == ("__debug__" : Str)) = false := by decide)
    (he : starEach (a :: es) X.env = (false, eval a X.env) :: starEach es X.env := by rfl) (hpl : (backTo pos (starEach es X.env)).any (·.1) = false := by rfl) : EX X W (.Call (.Name x p) (a :: es) [] pos) (aDef c dds u) := by
  obtain ⟨f, fd, ds, dvs, FF, hm, hk, hb, hd, hdd⟩ := d.ex
  obtain ⟨T, pa, r⟩ := ha.ex
  refine ⟨_, pe_g FF rn hg hm hk hb hd tk pa hdb he hpl, fun P G F ρ σ H Q Z Q' R h hz hq => ?_⟩
  refine r P G F ρ σ H _ Z _ R h hz fun G1 ρ1 H1 vs as R1 s1 rs hl ⟨ok, q⟩ => ?_
  refine call_core (x := x) R1 (by rw [List.length_append, ← rs.length, hl, ← (hdd G).length]; exact hlen) rs hdd ok q (hz.mono s1) (fun _ _ z => z) fun G2 ρp H2 r v R2 s2 h1 h2 h3 q => ?_
  cases r with
  | un => exact q.elim
  | pr _ _ => exact q.elim
  | tre _ => exact q.elim
  | dat d => exact hq G2 _ H2 v d R2 (s1.trans s2) (h1 d rfl) q
  | own b xs =>
    obtain ⟨a', us, rfl, k1, k2, k3, k4, k5⟩ := h2 b xs rfl
    have sG : Same G2 (upd G2 a' (.lst us)) := same_new k2
    exact hq _ _ H2 _ (.lst xs) (R2.keep k1 k2 k3 k4) ((s1.trans s2).trans sG) (rp_lst.mpr ⟨a', us, rfl, SqL.of upd_same, k5.mono sG⟩) q
theorem o_def {k : Nat} {x : Str} {ps : List Str} {dds : List D} {c : Ctr} (d : Def X k x ps dds c) (rn : Run k X) (tk : L2N.Takes X W) (hg : Gl X x) (ha : RX X W (a :: es) u) (hlen : (a :: es).length + dds.length = ps.length := by rfl) (hdb : (x == ("__debug__" : Str)) = false := by decide)
    (he : starEach (a :: es) X.env = (false, eval a X.env) :: starEach es X.env := by rfl) (hpl : (backTo pos (starEach es X.env)).any (·.1) = false := by rfl) : EO X W (.Call (.Name x p) (a :: es) [] pos) (oDef c dds u) := by
  obtain ⟨f, fd, ds, dvs, FF, hm, hk, hb, hd, hdd⟩ := d.ex
  obtain ⟨T, pa, r⟩ := ha.ex
  refine ⟨_, pe_g FF rn hg hm hk hb hd tk pa hdb he hpl, fun P G F ρ σ H Q Z Q' R h hz hq => ?_⟩
  refine r P G F ρ σ H _ Z _ R h hz fun G1 ρ1 H1 vs as R1 s1 rs hl ⟨ok, q⟩ => ?_
  refine call_core (x := x) R1 (by rw [List.length_append, ← rs.length, hl, ← (hdd G).length]; exact hlen) rs hdd ok q (hz.mono s1) (fun _ _ z => z) fun G2 ρp H2 r v R2 s2 h1 h2 h3 q => ?_
  cases r with
  | un => exact q.elim
  | pr _ _ => exact q.elim
  | tre _ => exact q.elim
  | dat d => exact q.elim
  | own b xs =>
    obtain ⟨a', us, rfl, k1, k2, k3, k4, k5⟩ := h2 b xs rfl
    exact hq G2 _ H2 a' us xs R2 (s1.trans s2) k1 k2 k3 k4 k5 q
/-- no arguments -/
theorem e_def0 {k : Nat} {x : Str} {ps : List Str} {dds : List D} {c : Ctr} (d : Def X k x ps dds c) (rn : Run k X) (tk : L2N.Takes X W) (hg : Gl X x) (hlen : dds.length = ps.length := by rfl) (hdb : (x == ("__debug__" : Str)) = false := by decide) : EX X W (.Call (.Name x p) [] [] pos) (aDef c dds rNil) := by
  obtain ⟨f, fd, ds, dvs, FF, hm, hk, hb, hd, hdd⟩ := d.ex
  refine ⟨_, pe_g0 FF rn hg hm hk hb hd tk hdb, fun P G F ρ σ H Q Z Q' R ⟨ok, q⟩ hz hq => ?_⟩
  refine call_core (x := x) (as := []) (vs := []) R (by rw [List.nil_append, ← (hdd G).length]; exact hlen) rfl hdd ok q hz (fun _ _ z => z) fun G2 ρp H2 r v R2 s2 h1 h2 h3 q => ?_
  cases r with
  | un => exact q.elim
  | pr _ _ => exact q.elim
  | tre _ => exact q.elim
  | dat d => exact hq G2 _ H2 v d R2 s2 (h1 d rfl) q
  | own b xs =>
    obtain ⟨a', us, rfl, k1, k2, k3, k4, k5⟩ := h2 b xs rfl
    have sG : Same G2 (upd G2 a' (.lst us)) := same_new k2
    exact hq _ _ H2 _ (.lst xs) (R2.keep k1 k2 k3 k4) (s2.trans sG) (rp_lst.mpr ⟨a', us, rfl, SqL.of upd_same, k5.mono sG⟩) q
/-- the arguments of a call that only reads -/
structure VRs (X : Cx) (es : List Expr) (t : VA) : Prop where
  ex : ∃ T : TA, PA X es T ∧ ∀ P G F ρ σ H (Q : List D → Prop) (Q' : List V → Hp → Prop), Rel X.K P G F ρ σ H → t ρ Q →
    (∀ G' H' vs ds, Rel X.K P G' F ρ σ H' → Same G G' → Same H H' → RpL X.K H' ds vs → ds.length = es.length → Q ds → Q' vs H') → T σ H Q'
theorem vr_nil : VRs X [] vNil := ⟨_, pa_nil, fun P G F ρ σ H Q Q' R h hq => hq G H [] [] R (Same.refl _) (Same.refl _) RpL.nil rfl h⟩
theorem vr_cons {va : AV} {w : VA} (ea : VW X a va) (k : VRs X es w) (hs : starEach (a :: es) X.env = (false, eval a X.env) :: starEach es X.env := by rfl) : VRs X (a :: es) (vCons va w) := by
  obtain ⟨T, p, r⟩ := ea.ex
  obtain ⟨U, p', r'⟩ := k.ex
  refine ⟨_, pa_cons p p' hs, fun P G F ρ σ H Q Q' R h hq => ?_⟩
  refine r P G F ρ σ H _ _ R h fun G1 H1 v d R1 s1 k1 rv q => ?_
  exact r' P G1 F ρ σ H1 _ _ R1 q fun G2 H2 vs ds R2 s2 k2 rs hl q => hq G2 H2 _ _ R2 (s1.trans s2) (k1.trans k2) (RpL.cons (rv.mono k2) rs) (congrArg Nat.succ hl) q
/-- a call that only reads, of views -/
def vDef (c : Ctr) (dds : List D) (t : VA) : AV := fun ρ Q => t ρ fun as => c (as.map .dat ++ dds.map .dat) (fun r _ => match r with
  | .dat d => Q d
  | .own _ xs => Q (.lst xs)
  | _ => False) fun _ _ => False
theorem v_def {k : Nat} {x : Str} {ps : List Str} {dds : List D} {c : Ctr} {w' : VA} (d : Def X k x ps dds c) (rn : Run k X) (tk : L2N.Takes X noW) (hg : Gl X x) (ha : VRs X (a :: es) w') (hlen : (a :: es).length + dds.length = ps.length := by rfl) (hdb : (x == ("__debug__" : Str)) = false := by decide)
    (he : starEach (a :: es) X.env = (false, eval a X.env) :: starEach es X.env := by rfl) (hpl : (backTo pos (starEach es X.env)).any (·.1) = false := by rfl) : VW X (.Call (.Name x p) (a :: es) [] pos) (vDef c dds w') := by
  obtain ⟨f, fd, ds, dvs, FF, hm, hk, hb, hd, hdd⟩ := d.ex
  obtain ⟨T, pa, r⟩ := ha.ex
  refine ⟨_, pe_g (W := noW) FF rn hg hm hk hb hd tk pa hdb he hpl, fun P G F ρ σ H Q Q' R h hq => ?_⟩
  refine r P G F ρ σ H _ _ R h fun G1 H1 vs as R1 s1 k1 rs hl q => ?_
  have rs2 : RpL X.K H1 (as ++ dds) (vs ++ dvs) := rs.append (hdd H1)
  have getM : ∀ {i : Nat} {s : Sv}, (as.map Sv.dat ++ dds.map Sv.dat)[i]? = some s → ∃ d, s = .dat d ∧ (as ++ dds)[i]? = some d := fun {i s} e => by
    rw [← List.map_append, List.getElem?_map] at e
    cases z : (as ++ dds)[i]? with
    | none => rw [z] at e; cases e
    | some d => rw [z] at e; exact ⟨d, (Option.some.inj e).symm, rfl⟩
  have R0 : Rel X.K [] H1 (fun _ => none) (as.map .dat ++ dds.map .dat) ((vs ++ dvs).map some) H1 := by
    refine ⟨by rw [← List.map_append, List.length_map, List.length_map]; exact rs2.length, Same.refl _, fun _ _ e => (by cases e), fun _ _ e => (by cases e), fun i d e => ?_, fun i b xs e => ?_, fun i j a b xs c ys e => ?_, fun p hp => (by cases hp), fun i xs e => ?_, ⟨fun i t e => ?_, fun i t j c ys a e => ?_, fun i t j u e => ?_⟩⟩
    rotate_right 3
    · obtain ⟨d', z1, _⟩ := getM e; cases z1
    · obtain ⟨d', z1, _⟩ := getM e; cases z1
    · obtain ⟨d', z1, _⟩ := getM e; cases z1
    · obtain ⟨d', z1, z2⟩ := getM e
      cases z1
      obtain ⟨v, m1, m2⟩ := rs2.get z2
      exact ⟨v, by rw [List.getElem?_map, m1]; rfl, m2⟩
    · obtain ⟨d', z1, _⟩ := getM e; cases z1
    · obtain ⟨d', z1, _⟩ := getM e; cases z1
    · obtain ⟨d', z1, _⟩ := getM e; cases z1
  have hl2 : (vs ++ dvs).length = ps.length := by rw [← rs2.length, List.length_append, hl]; exact hlen
  refine ⟨hl2, [], H1, _, _, _, _, R0, q, fun G' ρp H' r v B s rr q => ?_, fun G' ρp H' x cls d B s e q => q.elim⟩
  have sH : Same H1 H' := s.trans B.sg
  have g : Grow H1 H1 H1 H' := ⟨Same.refl _, sH, sH, fun _ _ _ z => z⟩
  cases r with
  | un => exact q.elim
  | pr _ _ => exact q.elim
  | tre _ => exact q.elim
  | dat d => exact hq G1 H' v d (R1.growV g) s1 (k1.trans sH) (Rp.mono B.sg rr) q
  | own b xs =>
    obtain ⟨a', us, rfl, m1, m2, _, _, m5⟩ := rr
    exact hq G1 H' _ (.lst xs) (R1.growV g) s1 (k1.trans sH) (rp_lst.mpr ⟨a', us, rfl, SqL.of m1, m5.mono B.sg⟩) q
end
end VS
/-! VSl: the law's end. -/
namespace VS
open PySem PySem.Spec PyProof.Rows L2
/-- what is promised of a law: a list of at most 63 ints is answered by True -/
def lawC : Ctr := fun ρ Q _ => ∃ ns : List Int, ns.length ≤ 63 ∧ ρ = [.dat (.lst (ns.map .int))] ∧ ∀ ρp, Q (.dat (.bl true)) ρp
theorem lawC_sp {K : PySem.W.Frag} {H : Hp} {a : Addr} {ns : List Int} (hl : ns.length ≤ 63) (hS : SqL K H a (ns.map V.int)) : spV K 1 lawC [.ref a] H (fun v _ => v = .bl true) (fun _ _ _ => False) := by
  have no1 : ∀ {i : Nat} {t : Tr}, [Sv.dat (.lst (ns.map .int))][i]? ≠ some (.tre t) := fun {i t} e => by
    cases i with
    | zero => cases e
    | succ i => simp at e
  refine ⟨rfl, [], H, fun _ => none, [.dat (.lst (ns.map .int))], fun r _ => r = .dat (.bl true), fun _ _ => False, ⟨rfl, Same.refl _, fun _ _ e => (by cases e), fun _ _ e => (by cases e), fun i d e => ?_, fun i b xs e => ?_, fun i j a b xs c ys e => ?_, fun p hp => (by cases hp), fun i xs e => ?_, ⟨fun i t e => absurd e no1, fun i t j c ys a e => absurd e no1, fun i t j u e => absurd e no1⟩⟩, ⟨ns, hl, rfl, fun _ => rfl⟩, fun G' ρp H' r v B s rr q => ?_, fun _ _ _ _ _ _ _ _ _ z => z⟩
  · cases i with
    | zero =>
      cases e
      exact ⟨.ref a, rfl, rp_lst.mpr ⟨a, _, rfl, hS, RpL.ints ns⟩⟩
    | succ i => simp at e
  · cases i with
    | zero => cases e
    | succ i => simp at e
  · cases i with
    | zero => cases e
    | succ i => simp at e
  · cases i with
    | zero => cases e
    | succ i => simp at e
  · subst q
    exact rp_bl.mp (show Rp K G' (.bl true) v from rr)
/-- the run of a law from an abstract heap that tracks nothing but the script -/
theorem law_core {P : Program} {w : World} {K : PySem.W.Frag} {mg mb : Str → Option Value} {k : Nat} {fa a : Addr} {fd : FuncData} {x : Str} {s₁ : Shared} {vs : List Value} {ns : List Int} {H : Hp}
    (inK : K.In s₁.heap) (nsM : s₁.heap.Ns mainGlobals mg) (nsB : s₁.heap.Ns builtinsNs mb) (bb : ∀ x : Str, x ≠ "__name__" → mb x = bootBuiltins x) (lim : s₁.heap.NoLimit) (gens : s₁.gens = #[]) (seer : s₁.heap.NoSeer)
    (ha : s₁.heap.get? a = some { cls := .type "list", data := .seq vs.toArray }) (hl : ns.length ≤ 63) (hr : Room k callerA)
    (F : ∀ base : Heap, K.In base → base.Ns mainGlobals mg → (∃ o es ep, base.get? sysModules = some o ∧ o.data = .dict es ep) → FnG P w K mg base k fa fd [x] (spV K 1 lawC)) (hbind : ∀ (s : Shared) (u : Value), BindsTo s fd ⟨[u], []⟩ [(x, u)])
    (hO : Only H) (hS : SqL K H a (ns.map V.int)) (hok : HOk P w H s₁.heap) (hA : ∀ b, H b ≠ none → b = a) (hK : H a ≠ none → K.lookup a = none) :
    codeAny (model P w) callerA (.call (.ref fa) ⟨[.ref a], []⟩) (fun r s' => r = .ok (.ret (.bool true)) ∧ OldK s₁.heap s'.heap ∧ s'.os = s₁.os ∧ AllBare s'.gens) s₁ := by
  have free : ∀ {b : Addr} {o : Obj} {es : Array DictEntry} {ep : Nat}, s₁.heap.get? b = some o → o.data = .dict es ep → H b = none := fun {b o es ep} e d => by
    cases q : H b with
    | none => rfl
    | some u =>
      obtain rfl : b = a := hA b (by rw [q]; simp)
      rw [ha] at e
      cases e
      exact absurd d (by simp)
  have nsOf : ∀ {b : Addr} {m : Str → Option Value}, s₁.heap.Ns b m → (hidT s₁.heap H).Ns b m := fun {b m} ⟨o, es, ep, e, d, r⟩ => ⟨o, es, ep, hidT_get e (free e d), d, r⟩
  have inB : K.In (hidT s₁.heap H) := fun b o e => by
    refine hidT_get (inK b o e) ?_
    cases q : H b with
    | none => rfl
    | some u =>
      obtain rfl : b = a := hA b (by rw [q]; simp)
      have z := hK (by rw [q]; simp)
      rw [z] at e
      cases e
  have M0 : Mod K mg (hidT s₁.heap H) := by
    refine ⟨inB, nsOf nsM, ⟨mb, nsOf nsB, bb⟩, ?_⟩
    obtain ⟨mc, l1, l2⟩ := lim
    exact ⟨mc, nsOf l1, l2⟩
  have sys : ∃ o es ep, (hidT s₁.heap H).get? sysModules = some o ∧ o.data = .dict es ep := by
    obtain ⟨mm, ⟨o, es, ep, e, d, _⟩, _⟩ := seer.mods
    exact ⟨o, es, ep, hidT_get e (free e d), d⟩
  have E0 : Env0 P w K mg (hidT s₁.heap H) callerA [] s₁ H := ⟨rfl, M0, fun b o e => of_hidT e, Nat.le_of_eq (hidT_size _ _), trivial, fun b hb => (by cases hb), hok, AllBare.of_eq gens⟩
  refine codeAny_mono ((F _ inB (nsOf nsM) sys).run callerA [] s₁ H ⟨[.ref a], []⟩ [.ref a] [.ref a] (fun v _ => v = .bl true) (fun _ _ _ => False) hr rfl E0 (hbind s₁ (.ref a)) (.cons rfl .nil) (lawC_sp hl hS)) fun r s' h => ?_
  match r, h with
  | .error e, h =>
    obtain ⟨_, _, _, _, _, _, _, _, _, _, _, _, z⟩ := h
    exact z.elim
  | .ok (.ret u), h =>
    obtain ⟨v, H', os, bare, un, hok', rv, q⟩ := h
    obtain rfl : v = .bl true := q
    obtain rfl : u = Value.bool true := rv
    refine ⟨rfl, OldK.of_keep fun b o e => ?_, os, bare⟩
    rcases hO b with z | ⟨ob, xs, z⟩
    · exact un.keep b o e z (fun z => by cases z) (fun z => by cases z)
    · obtain ⟨e1, _⟩ := hok b _ z
      obtain ⟨e2, _⟩ := hok' b _ (un.frzs b ob _ z)
      rw [e] at e1
      cases e1
      exact e2
/-- THE END of a law -/
theorem law_end {l : PySem.W.OpenLaw} {k : Nat} {q : Program} {loose : List Str} {XP : (Str → Option Value) → Heap → Prop} {YP : World → Heap → Prop} {d : DefRec} {KK : Params → PySem.W.Frag} {x : Str}
    (hn : l.most = some 63) (hdf : d.params.defaults = []) (hr : Room k callerA) (him : importsNone q = true) (hY : ∀ (w : World) (h : Heap), YP w h → (KK w.params).In h)
    (F : ∀ (w : World) (mg : Str → Option Value) (fa : Addr) (h : Heap), (KK w.params).In h → h.Ns mainGlobals mg → mg d.name = some (.ref fa) →
      ∃ fd : FuncData, (∀ (s : Shared) (u : Value), BindsTo s fd ⟨[u], []⟩ [(x, u)]) ∧
        ∀ base : Heap, (KK w.params).In base → base.Ns mainGlobals mg → (∃ o es ep, base.get? sysModules = some o ∧ o.data = .dict es ep) → FnG l.prog w (KK w.params) mg base k fa fd [x] (spV (KK w.params) 1 lawC)) :
    PySem.W.WalkO q loose XP YP l.row.toRowW d [] (fun f vs => PySem.call f vs) := by
  refine Att.attach_call hn hdf fun w s₀ s₁ mg mb fa o pm cd doc a vs ns G Y ho hd hcd hmg hobj hints hlen hg => ?_
  have inK := hY w _ Y
  obtain ⟨fd, hb, hF⟩ := F w mg fa _ inK G.T.g hmg
  have rv : Vals (ns.map V.int) vs := vals_ints hints
  have z63 : ns.length ≤ sizeLine := Nat.le_trans hlen (by decide)
  have go := fun (H : Hp) => law_core (H := H) (x := x) (k := k) (fd := fd) (P := l.prog) (w := w) inK G.T.g G.T.b G.T.builtins G.T.nolimit hg (G.T.seer him) hobj hlen hr hF hb
  cases hk : (KK w.params).lookup a with
  | some ob =>
    have e := inK a ob hk
    rw [hobj] at e
    cases e
    have hl2 := hints.length
    exact go (fun _ => none) (fun _ => Or.inl rfl) (Or.inr ⟨_, vs.toArray, _, hk, rfl, rfl, rfl, by rw [List.size_toArray, hl2]; exact z63, by simpa using rv⟩) (fun b u z => (by cases z)) (fun b z => absurd rfl z) (fun z => absurd rfl z)
  | none =>
    have atA : ∀ {b : Addr} {u : HO}, (if b = a then some (HO.frz { cls := .type "list", data := .seq vs.toArray } (.lst (ns.map V.int))) else none) = some u → b = a ∧ u = HO.frz { cls := .type "list", data := .seq vs.toArray } (.lst (ns.map V.int)) := fun {b u} z => by
      split at z
      · rename_i e; exact ⟨e, (Option.some.inj z).symm⟩
      · cases z
    refine go (fun b => if b = a then some (.frz { cls := .type "list", data := .seq vs.toArray } (.lst (ns.map V.int))) else none) (fun b => ?_) (Or.inl (Or.inr ⟨_, if_pos rfl⟩)) (fun b u z => ?_) (fun b z => ?_) (fun _ => hk)
    · by_cases e : b = a
      · exact Or.inr ⟨_, _, if_pos e⟩
      · exact Or.inl (if_neg e)
    · obtain ⟨rfl, rfl⟩ := atA z
      exact ⟨hobj, by rw [List.length_map]; exact z63, vs, _, rv, hobj⟩
    · by_cases e : b = a
      · exact e
      · exact absurd (if_neg e) z
end VS
/-! VSm: more rules. -/
namespace VS
open PySem PySem.Spec PyProof.Rows L2
section
variable {X : Cx} {W : WX} {pos p : Pos} {a b c : Expr} {ta tb : AE} {va vb vc : AV}
/-! ### constants of the module -/
def GlC (K : PySem.W.Frag) (mg : Str → Option Value) (x : Str) (d : D) : Prop := ∃ u v, mg x = some u ∧ RelV v u ∧ ∀ G, Rp K G d v
theorem e_glob {x : Str} {d : D} (h : GlC X.K X.mg x d) (hg : Gl X x) (hd : (x == ("__debug__" : Str)) = false := by decide) : EX X W (.Name x pos) (aC d) := by
  obtain ⟨u, v, hm, r, rp⟩ := h
  exact e_C (pe_glob hg hm r hd) rp
theorem v_glob {x : Str} {d : D} (h : GlC X.K X.mg x d) (hg : Gl X x) (hd : (x == ("__debug__" : Str)) = false := by decide) : VW X (.Name x pos) (vC d) := by
  obtain ⟨u, v, hm, r, rp⟩ := h
  exact v_C (pe_glob hg hm r hd) rp
/-! ### chains of two comparisons -/
def vChain (β β' : D → D → (D → Prop) → Prop) (va vb vc : AV) : AV := fun ρ Q => va ρ fun x => vb ρ fun y => β x y fun z => ∃ k, z = .bl k ∧ (if k = true then vc ρ fun w => β' y w Q else Q (.bl false))
theorem v_chain {op op' : CmpOp} {r r' : R2} {β β' : D → D → (D → Prop) → Prop} (ho : OpR X (compareOp op) r) (hb : B2 X.K r β) (ho' : OpR X (compareOp op') r') (hb' : B2 X.K r' β') (ea : VW X a va) (eb : VW X b vb) (ec : VW X c vc)
    (hm : lastMarks [op, op'] [b, c] = false := by with_unfolding_all rfl) : VW X (.Compare a [op, op'] [b, c] pos) (vChain β β' va vb vc) := by
  obtain ⟨Ta, pa, ra⟩ := ea.ex
  obtain ⟨Tb, pb, rb⟩ := eb.ex
  obtain ⟨Tc, pc, rc⟩ := ec.ex
  refine ⟨_, pe_chain ho ho' pa pb pc hm, fun P G F ρ σ H Q Q' R h hq => ?_⟩
  refine ra P G F ρ σ H _ _ R h fun G1 H1 v d R1 s1 k1 rv h1 => ?_
  refine rb P G1 F ρ σ H1 _ _ R1 h1 fun G2 H2 u e R2 s2 k2 ru h2 => ?_
  refine hb H2 H2 d e v u _ _ (Same.refl _) (rv.mono k2) ru h2 fun J' H' z w g rz ⟨k, ez, q⟩ => ?_
  subst ez
  refine ⟨k, rp_bl.mp rz, ?_⟩
  have R3 := R2.growV g
  cases k with
  | false =>
    rw [if_neg Bool.false_ne_true] at q
    exact iteF (hq G2 H' _ _ R3 (s1.trans s2) ((k1.trans k2).trans g.h) (rp_b _) q)
  | true =>
    rw [if_pos rfl] at q
    refine iteT (rc P G2 F ρ σ H' _ _ R3 q fun G4 H4 w' f R4 s4 k4 rw' h4 => ?_)
    exact hb' H4 H4 e f u w' _ Q' (Same.refl _) (ru.mono (g.h.trans k4)) rw' h4 fun J5 H5 z w g5 rz q => hq G4 H5 w z (R4.growV g5) ((s1.trans s2).trans s4) (((k1.trans k2).trans (g.h.trans k4)).trans g5.h) (rz.mono g5.jh) q
/-! ### an item of an own list -/
def aOwnIx (i : Nat) (tk : AE) : AE := fun ρ Q Z => isOwn ρ i ∧ tk ρ (fun k ρ1 => match k, ρ1[i]? with
  | .int k, some (.own _ xs) => ∃ d, atI xs k = some d ∧ Q d ρ1
  | _, _ => False) Z
theorem e_ownIx (i : Nat) {x : Str} {tk : AE} (hk : EX X W b tk) (hs : PlainIx b) (hi : X.N[i]? = some x := by rfl) (hv : Vis X.env.scope x := by first | exact Or.inl rfl | exact Or.inr (Or.inl rfl) | exact Or.inr (Or.inr rfl)) (hd1 : (x == ("__debug__" : Str)) = false := by decide)
    (hcd : (x == ("__classdict__" : Str)) = false := by decide) : EX X W (.Subscript (.Name x p) b pos) (aOwnIx i tk) := by
  obtain ⟨T, pk, r⟩ := hk.ex
  refine ⟨_, pe_ix ix_list (pe_var hi hv hd1 hcd) pk hs, fun P G F ρ σ H Q Z Q' R ⟨h0, h⟩ hz hq => ?_⟩
  obtain ⟨b0, xs0, e0⟩ := h0.ex
  obtain ⟨a, vs, g1, g2, _⟩ := R.own i b0 xs0 e0
  refine ⟨_, g1, r P G F ρ σ H _ Z _ R h hz fun G1 ρ1 H1 v d R1 s1 rv q => ?_⟩
  split at q
  · rename_i k c xs e1
    obtain ⟨d, hd, q⟩ := q
    obtain ⟨a', us, k1, k2, k3, k4, k5⟩ := R1.own i c xs e1
    rw [g1] at k1
    cases k1
    obtain ⟨w, w1, w2⟩ := atI_rpl k5 hd
    exact ⟨a, us, k, w, rfl, rp_int.mp rv, SqL.of k2, w1, hq G1 ρ1 H1 w d R1 s1 w2 q⟩
  · exact q.elim
/-! ### own lists made -/
def oCat (ta tb : AE) : AO := fun ρ Q Z => ta ρ (fun x ρ1 => tb ρ1 (fun y ρ2 => match x, y with
  | .lst xs, .lst ys => xs.length + ys.length ≤ sizeLine ∧ Q (xs ++ ys) ρ2
  | _, _ => False) Z) Z
/-- [..] * n, the list made here -/
def oRep (ta : AO) (tb : AE) : AO := fun ρ Q Z => ta ρ (fun xs ρ1 => tb ρ1 (fun y ρ2 => match y with
  | .int k => -(2 ^ 63) ≤ k ∧ k < 2 ^ 63 ∧ xs.length * k.toNat ≤ sizeLine ∧ Q (List.replicate k.toNat xs).flatten ρ2
  | _ => False) Z) Z
theorem RpL.rep {K : PySem.W.Frag} {G : Hp} {xs : List D} {vs : List V} (h : RpL K G xs vs) : ∀ n : Nat, RpL K G (List.replicate n xs).flatten (List.replicate n vs).flatten
  | 0 => RpL.nil
  | n + 1 => by
    rw [List.replicate_succ, List.replicate_succ, List.flatten_cons, List.flatten_cons]
    exact h.append (RpL.rep h n)
theorem o_rep {oa : AO} (ea : EO X W a oa) (eb : EX X W b tb) : EO X W (.BinOp a .Mult b pos) (oRep oa tb) := by
  obtain ⟨Ta, pa, ra⟩ := ea.ex
  obtain ⟨Tb, pb, rb⟩ := eb.ex
  refine ⟨_, pe_op op_rep pa pb, fun P G F ρ σ H Q Z Q' R h hz hq => ?_⟩
  refine ra P G F ρ σ H _ Z _ R h hz fun G1 ρ1 H1 l vs xs R1 s1 h2 h3 h4 hn hr h1 => ?_
  have sG : Same G1 (upd G1 l (.lst vs)) := same_new h3
  have R1' := R1.keep h2 h3 h4 hn
  refine rb P _ F ρ1 σ H1 _ Z _ R1' h1 (hz.mono (s1.trans sG)) fun G2 ρ2 H2 u e R2 s2 ru q => ?_
  cases e <;> first | exact q.elim | skip
  have hl : H2 l = some (.lst vs) := R2.sg _ _ (s2 _ _ upd_same)
  have hr2 := hr.mono (sG.trans s2)
  exact ⟨l, _, vs, rfl, rp_int.mp ru, hl, q.1, q.2.1, by rw [← hr2.length]; exact q.2.2.1, fun p hp => hq G2 ρ2 _ p _ _ (R2.alloc hp) ((s1.trans sG).trans s2) upd_same (R2.sg.free hp) (R2.sf.free hp) (not_own R2 hp) (hr2.rep _) q.2.2.2⟩
/-- list(x) -/
def oList (t : AA) : AO := fun ρ Q Z => t ρ (fun ds ρ1 => match ds with
  | [.lst xs] => Q xs ρ1
  | [.tup xs] => Q xs ρ1
  | _ => False) Z
/-! ### a list, a tuple or a text walked -/
theorem pi_any {tg : Expr} {T : TE} (h : PE X a T) : PI X tg a (fun σ H R => T σ H fun x H1 => (∃ l xs, x = .ref l ∧ SqL X.K H1 l xs ∧ R (Itl X.K l) H1) ∨ (∃ l xs, x = .ref l ∧ SqT X.K H1 l xs ∧ R (Itt X.K l) H1) ∨ ∃ z, x = .str z ∧ R (Its z) H1) := by
  refine ⟨fun pins s σ H R I h' => thn (h.run pins s σ H _ I h') fun v s1 ⟨x, H1, I1, r1, q1⟩ => ?_⟩
  rcases q1 with ⟨l, xs, e, hq, q⟩ | ⟨l, xs, e, hq, q⟩ | ⟨z, e, q⟩
  · subst e
    cases r1
    obtain ⟨its, rv, pl, _⟩ := I1.list hq
    exact wpAny_pyIter_list pl.isList (pi_one (tk := s1.toks) I1 _ (turn_list l _) ⟨_, Heap.get?_push_size _ rfl, rfl, rfl⟩ q)
  · subst e
    cases r1
    obtain ⟨its, rv, pl, _⟩ := I1.tuple hq
    exact wpAny_pyIter_tuple (show s1.heap.IsTuple l its.toArray from pl) (pi_one (tk := s1.toks) I1 _ (turn_tuple l _) ⟨_, Heap.get?_push_size _ rfl, rfl, rfl⟩ q)
  · subst e
    obtain ⟨t, rfl⟩ := r1
    cases hz : z.cps.all (· < 128)
    · exact wpAny_pyIter_wide hz (pi_one (tk := s1.toks) I1 _ (turn_str _ z t "str_iterator" (.inr rfl)) ⟨_, Heap.get?_push_size _ rfl, rfl, rfl⟩ q)
    · exact wpAny_pyIter_ascii hz (pi_one (tk := s1.toks) I1 _ (turn_str _ z t "str_ascii_iterator" (.inl rfl)) ⟨_, Heap.get?_push_size _ rfl, rfl, rfl⟩ q)
def iAny (te : AE) : AI := fun ρ Q Z => te ρ (fun d ρ1 => match d with
  | .lst xs => Q xs ρ1
  | .tup xs => Q xs ρ1
  | .str x => Q (signsD x) ρ1
  | _ => False) Z
theorem i_any {tg : Expr} (he : EX X W a ta) : IX X W tg a (iAny ta) := by
  obtain ⟨T, p, r⟩ := he.ex
  refine ⟨_, pi_any p, fun P G F ρ σ H Q Z R' R h hz hq => ?_⟩
  refine r P G F ρ σ H _ Z _ R h hz fun G1 ρ1 H1 v d R1 s1 rv q => ?_
  cases d <;> first | exact q.elim | skip
  · exact .inr (.inr ⟨_, rp_str.mp rv, hq G1 ρ1 H1 _ _ R1 s1 walk_str q⟩)
  · obtain ⟨l, vs, rfl, h2, h3⟩ := rp_lst.mp rv
    exact .inl ⟨l, vs, rfl, R1.sg.seq h2, hq G1 ρ1 H1 _ _ R1 s1 (walk_list h2 h3) q⟩
  · obtain ⟨l, vs, rfl, h2, h3⟩ := rp_tup.mp rv
    exact .inr (.inl ⟨l, vs, rfl, Same.seqT R1.sg h2, hq G1 ρ1 H1 _ _ R1 s1 (walk_tup h2 h3) q⟩)
/-! ### a, b = x, y -/
def sPar (i j : Nat) (ta tb : AE) : AS := fun D ρ => ta ρ (fun x ρ1 => tb ρ1 (fun y ρ2 => okSet ρ2 i ∧ okSet (ρ2.set i (.dat x)) j ∧ D.nx ((ρ2.set i (.dat x)).set j (.dat y))) D.xx) D.xx
/-! ### x op= e -/
def bAddI : D → D → (D → Prop) → Prop := bI (fun _ _ => True) fun i j => .int (i + j)
theorem b2_addI {K : PySem.W.Frag} : B2 K (rI0 fun i j => .int (i + j)) bAddI := b2_int0 fun _ _ _ => rp_i _
def bMulS : D → D → (D → Prop) → Prop := bI CMul fun i j => .int (i * j)
theorem b2_mulS {K : PySem.W.Frag} : B2 K (rI CMul fun i j => .int (i * j)) bMulS := b2_int fun _ _ _ => rp_i _
/-! ### x.pop() -/
end
/-! ### names for what the rules say -/
def tCmpE (β : D → D → (D → Prop) → Prop) (ta tb : AE) : AT := fun ρ Q Z => aOp β ta tb ρ (fun d ρ1 => ∃ k, d = .bl k ∧ Q k ρ1) Z
def tCmpV (β : D → D → (D → Prop) → Prop) (va vb : AV) : AT := fun ρ Q Z => vOp β va vb ρ fun d => ∃ k, d = .bl k ∧ Q k ρ
def tChainV (β β' : D → D → (D → Prop) → Prop) (va vb vc : AV) : AT := fun ρ Q Z => vChain β β' va vb vc ρ fun d => ∃ k, d = .bl k ∧ Q k ρ
def sAppO (i : Nat) (te : AE) : AS := fun D ρ => isOwn ρ i ∧ sApp i te D ρ
def sPutO (i : Nat) (te tk : AE) : AS := fun D ρ => te ρ (fun d ρ1 => isOwn ρ1 i ∧ sPut i (fun _ Q _ => Q d ρ1) tk D ρ1) D.xx
/-- behind a body of n parameters -/
def endsA (n : Nat) (Q : Sv → List Sv → Prop) (Z : Exc → List Sv → Prop) : AEnds := { nx := fun ρ' => Q (.dat .non) (ρ'.take n), rt := fun r ρ' => Q r (ρ'.take n), xx := fun x ρ' => Z x (ρ'.take n) }
/-- the body b, of n parameters and m slots, keeps the contract c -/
def Sat (n m : Nat) (b : AS) (c : Ctr) : Prop := ∀ ρ Q Z, ρ.length = n → c ρ Q Z → b (endsA n Q Z) (startA m ρ)
section
variable {P : Program} {w : World} {K : PySem.W.Frag} {mg : Str → Option Value} {base : Heap} {x qual : Str} {params : Arguments} {body : List Stmt} {scope : Scope} {dvs : List V} {kws : List (Str × V)} {f : Addr} {fd : FuncData}
theorem ok_sat {N ps : List Str} {k : Nat} {c : Ctr} {t : AS} (F : FunD K x qual params body scope dvs kws f fd) (S : FnScope N ps scope) (hsys : ∃ o es ep, base.get? sysModules = some o ∧ o.data = .dict es ep)
    (hb : ∀ (cdv : Value) (A : Around) (ou : List Env) (s : Shared) (H : Hp) (E : XK), Run k (cxOf (L2N.CX P w) P w K mg base N qual scope f cdv A ou s H E) → PassesOwn (model P w) (cxOf (L2N.CX P w) P w K mg base N qual scope f cdv A ou s H E).A (cxOf (L2N.CX P w) P w K mg base N qual scope f cdv A ou s H E).env (cxOf (L2N.CX P w) P w K mg base N qual scope f cdv A ou s H E).xe →
      L2N.Takes (cxOf (L2N.CX P w) P w K mg base N qual scope f cdv A ou s H E) (fun cls d _ H => E cls d H) → SXs (cxOf (L2N.CX P w) P w K mg base N qual scope f cdv A ou s H E) (fun cls d _ H => E cls d H) body t)
    (hc : Sat ps.length N.length t c) : FnG P w K mg base (k + 1) f fd ps (spV K ps.length c) := ok_fn F S hsys hb fun ρ Q Z hl h => hc ρ Q Z hl h
/-- the def as its callers know it, all arguments written -/
theorem def_of {ps : List Str} {k : Nat} {c : Ctr} (G : FnG P w K mg base k f fd ps (spV K ps.length c)) (F : FunD K x qual params body scope [] kws f fd) (hm : mg x = some (.ref f))
    (h : ∀ (kV doc pm : Value) (an : Option Addr) (cdv ct : Value) (us : List Value), us.length = ps.length → bindArgs (PySem.W.fnOf x qual params body scope .none kV doc pm an cdv ct) ⟨us, []⟩ = pure (ps.zip us)) : DefC P w K mg base k x ps [] c :=
  ⟨f, fd, [], [], G, hm, F.kp, F.bindsN h, .nil, fun _ => RpL.nil⟩
/-- the same where the defaults behind the first n parameters fill up -/
theorem def_ofD {ps : List Str} {k : Nat} {c : Ctr} {dds : List D} (n : Nat) (G : FnG P w K mg base k f fd ps (spV K ps.length c)) (F : FunD K x qual params body scope dvs kws f fd) (hm : mg x = some (.ref f)) (hd : dvs ≠ []) (hn : n + (dvs.length - 0) = ps.length)
    (h : ∀ (T : Addr) (kV doc pm : Value) (an : Option Addr) (cdv ct : Value) (us its : List Value), us.length = n → its.length = dvs.length →
      ∃ k, bindArgs (PySem.W.fnOf x qual params body scope (.ref T) kV doc pm an cdv ct) ⟨us, []⟩ = seqItems? (.ref T) >>= k ∧ k (some its.toArray) = pure (ps.zip (us ++ its.drop 0))) (hdd : ∀ G, RpL K G dds dvs) : DefC P w K mg base k x ps dds c := by
  obtain ⟨ds, r, b⟩ := F.binds1 n 0 hd hn h
  exact ⟨f, fd, ds, dvs, G, hm, F.kp, b, r, hdd⟩
/-- .. where all of its parameters are written -/
theorem def_ofA {ps : List Str} {k : Nat} {c : Ctr} (n : Nat) (G : FnG P w K mg base k f fd ps (spV K ps.length c)) (F : FunD K x qual params body scope dvs kws f fd) (hm : mg x = some (.ref f)) (hd : dvs ≠ []) (hn : n + (dvs.length - dvs.length) = ps.length)
    (h : ∀ (T : Addr) (kV doc pm : Value) (an : Option Addr) (cdv ct : Value) (us its : List Value), us.length = n → its.length = dvs.length →
      ∃ k, bindArgs (PySem.W.fnOf x qual params body scope (.ref T) kV doc pm an cdv ct) ⟨us, []⟩ = seqItems? (.ref T) >>= k ∧ k (some its.toArray) = pure (ps.zip (us ++ its.drop dvs.length))) : DefC P w K mg base k x ps [] c := by
  obtain ⟨ds, r, b⟩ := F.binds1 n dvs.length hd hn h
  rw [List.drop_length] at r
  cases r
  exact ⟨f, fd, [], [], G, hm, F.kp, b, .nil, fun _ => RpL.nil⟩
end
end VS
/-! VSo: what the abstract bodies compute, as rules of simp. -/
namespace VS
open PySem PySem.Spec PyProof.Rows L2
theorem keep {α : Sort _} {a b : α} (h : a = b) : a = b := h
/-! what follows a step, by name: nothing happens in it before it is reached -/
section
variable (ρ ρ0 : List Sv) (Q : KD) (QV : D → Prop) (Z : KX) (QB : Bool → List Sv → Prop) (QL : List D → List Sv → Prop) (QW : List D → Prop) (QA : List Ar → List Sv → Prop) (QP : Option Int → List Sv → Prop) (b b' : D → D → (D → Prop) → Prop) (b1 : D → (D → Prop) → Prop) (β : List D → (D → Prop) → Prop) (ta tb : AE) (va vb : AV) (t u : AT) (oa ob : AO) (aa : AA) (av : VA) (E : AEnds)
def kAt : D → Prop := fun z => Q z ρ
def kOp1 : KD := fun x ρ1 => tb ρ1 (fun y ρ2 => b x y (kAt ρ2 Q)) Z
def kOp2 (x : D) : KD := fun y ρ2 => b x y (kAt ρ2 Q)
def kvOp1 : D → Prop := fun x => vb ρ fun y => b x y QV
def kvOp2 (x : D) : D → Prop := fun y => b x y QV
def kUn : KD := fun x ρ1 => b1 x (kAt ρ1 Q)
def kvUn : D → Prop := fun x => b1 x QV
def kFlat : D → Prop := fun d => d.flat = true ∧ Q d ρ
def kTr : KD := fun d ρ1 => d.truOk ∧ QB d.tru ρ1
def kvTr : D → Prop := fun d => d.truOk ∧ QB d.tru ρ
def kNot : Bool → List Sv → Prop := fun c ρ1 => QB (!c) ρ1
def kAnd : Bool → List Sv → Prop := fun c ρ1 => if c = true then u ρ1 QB Z else QB false ρ1
def kOr : Bool → List Sv → Prop := fun c ρ1 => if c = true then QB true ρ1 else u ρ1 QB Z
def kAndV : KD := fun x ρ1 => x.truOk ∧ if x.tru = true then tb ρ1 Q Z else Q x ρ1
def kOrV : KD := fun x ρ1 => x.truOk ∧ if x.tru = true then Q x ρ1 else tb ρ1 Q Z
def kvAndV : D → Prop := fun x => x.truOk ∧ if x.tru = true then vb ρ QV else QV x
def kvOrV : D → Prop := fun x => x.truOk ∧ if x.tru = true then QV x else vb ρ QV
def kIfE : Bool → List Sv → Prop := fun c ρ1 => if c = true then ta ρ1 Q Z else tb ρ1 Q Z
def kFrz : List D → List Sv → Prop := fun xs ρ1 => Q (.lst xs) ρ1
def kCons2 (d : D) : List D → List Sv → Prop := fun ds ρ2 => QL (d :: ds) ρ2
def kCons1 : KD := fun d ρ1 => aa ρ1 (kCons2 QL d) Z
def kvCons2 (d : D) : List D → Prop := fun ds => QW (d :: ds)
def kvCons1 : D → Prop := fun d => av ρ (kvCons2 QW d)
def kTup : List D → List Sv → Prop := fun ds ρ1 => ds.length ≤ sizeLine ∧ Q (.tup ds) ρ1
def kvTup : List D → Prop := fun ds => ds.length ≤ sizeLine ∧ QV (.tup ds)
def kLst : List D → List Sv → Prop := fun ds ρ1 => ds.length ≤ sizeLine ∧ QL ds ρ1
def kvLst : List D → Prop := fun ds => ds.length ≤ sizeLine ∧ QV (.lst ds)
def kCall : List D → List Sv → Prop := fun ds ρ1 => β ds (kAt ρ1 Q)
def kvCall : List D → Prop := fun ds => β ds QV
def kIsi (T : String) : D → Prop := fun d => d.noObj ∧ QV (.bl (isTy T d))
def kIsi2 (T U : String) : D → Prop := fun d => d.noObj ∧ QV (.bl (isTy T d || isTy U d))
def kPart : KD := fun d ρ1 => ∃ i, d = .int i ∧ QP (some i) ρ1
def kSl3 (d : D) (l : Option Int) : Option Int → List Sv → Prop := fun u ρ3 => match d with
  | .str x => x.length ≤ sizeLine ∧ Q (.str (cutS x l u)) ρ3
  | .lst xs => Q (.lst (cutD xs l u)) ρ3
  | .tup xs => ¬ (HT.sIx xs.length 0 l = 0 ∧ HT.sIx xs.length xs.length u = xs.length) ∧ Q (.tup (cutD xs l u)) ρ3
  | _ => False
def kSl2 (th : AP) (d : D) : Option Int → List Sv → Prop := fun l ρ2 => th ρ2 (kSl3 Q d l) Z
def kSl1 (tl th : AP) : KD := fun d ρ1 => tl ρ1 (kSl2 Q Z th d) Z
def kSlO3 (d : D) (l : Option Int) : Option Int → List Sv → Prop := fun u ρ3 => ∃ xs, d = .lst xs ∧ QL (cutD xs l u) ρ3
def kSlO2 (th : AP) (d : D) : Option Int → List Sv → Prop := fun l ρ2 => th ρ2 (kSlO3 QL d l) Z
def kSlO1 (tl th : AP) : KD := fun d ρ1 => tl ρ1 (kSlO2 Z QL th d) Z
def kOwnIx (i : Nat) : KD := fun k ρ1 => match k, ρ1[i]? with
  | .int k, some (.own _ xs) => ∃ d, atI xs k = some d ∧ Q d ρ1
  | _, _ => False
def kCat2 (x : D) : KD := fun y ρ2 => match x, y with
  | .lst xs, .lst ys => xs.length + ys.length ≤ sizeLine ∧ QL (xs ++ ys) ρ2
  | _, _ => False
def kCat1 : KD := fun x ρ1 => tb ρ1 (kCat2 QL x) Z
def kRep2 (xs : List D) : KD := fun y ρ2 => match y with
  | .int k => -(2 ^ 63) ≤ k ∧ k < 2 ^ 63 ∧ xs.length * k.toNat ≤ sizeLine ∧ QL (List.replicate k.toNat xs).flatten ρ2
  | _ => False
def kRep1 : List D → List Sv → Prop := fun xs ρ1 => tb ρ1 (kRep2 QL xs) Z
def kList : List D → List Sv → Prop := fun ds ρ1 => match ds with
  | [.lst xs] => QL xs ρ1
  | [.tup xs] => QL xs ρ1
  | _ => False
def kAny : KD := fun d ρ1 => match d with
  | .lst xs => QL xs ρ1
  | .tup xs => QL xs ρ1
  | .str x => QL (signsD x) ρ1
  | _ => False
def kRange1 : List D → List Sv → Prop := fun ds ρ1 => match ds with
  | [.int n] => -(2 ^ 62) ≤ n ∧ n < 2 ^ 62 ∧ QL (rangeD 0 n.toNat) ρ1
  | _ => False
def kRange2 : List D → List Sv → Prop := fun ds ρ1 => match ds with
  | [.int m, .int n] => (-(2 ^ 62) ≤ m ∧ m < 2 ^ 62 ∧ -(2 ^ 62) ≤ n ∧ n < 2 ^ 62) ∧ QL (rangeD m (n - m).toNat) ρ1
  | _ => False
def kEnum : List D → List Sv → Prop := fun ds ρ1 => match ds with
  | [.lst xs] => QL (enumD xs) ρ1
  | _ => False
def kZip : List D → List Sv → Prop := fun ds ρ1 => match ds with
  | [.lst xs, .lst ys] => QL (zipD xs ys) ρ1
  | _ => False
def kCh4 (y : D) : D → Prop := fun w => b' y w QV
def kCh3 (vc : AV) (y : D) : D → Prop := fun z => ∃ k, z = .bl k ∧ (if k = true then vc ρ (kCh4 QV b' y) else QV (.bl false))
def kCh2 (vc : AV) (x : D) : D → Prop := fun y => b x y (kCh3 ρ QV b' vc y)
def kCh1 (vc : AV) : D → Prop := fun x => vb ρ (kCh2 ρ QV b b' vc x)
def kCmp : KD := fun d ρ1 => ∃ k, d = .bl k ∧ QB k ρ1
def kvCmp : D → Prop := fun d => ∃ k, d = .bl k ∧ QB k ρ
def krDat2 (d : D) : List Ar → List Sv → Prop := fun as ρ2 => QA (.dat d :: as) ρ2
def krDat1 (ua : AAr) : KD := fun d ρ1 => ua ρ1 (krDat2 QA d) Z
def krIo (i : Nat) : List Ar → List Sv → Prop := fun as ρ2 => QA (.io i :: as) ρ2
def kDef2 (as : List Ar) : Sv → List Sv → Prop := fun r ρp => match r with
  | .dat d => Q d (put ρ as ρp)
  | .own _ xs => Q (.lst xs) (put ρ as ρp)
  | _ => False
def kDefX (as : List Ar) : Exc → List Sv → Prop := fun x ρp => Z x (put ρ as ρp)
def kDef1 (c : Ctr) (dds : List D) : List Ar → List Sv → Prop := fun as ρ1 => lendOk ρ1 as ∧ c ((as.map (res ρ1)) ++ dds.map .dat) (kDef2 ρ1 Q as) (kDefX ρ1 Z as)
def kDefO2 (as : List Ar) : Sv → List Sv → Prop := fun r ρp => match r with
  | .own _ xs => QL xs (put ρ as ρp)
  | _ => False
def kDefO1 (c : Ctr) (dds : List D) : List Ar → List Sv → Prop := fun as ρ1 => lendOk ρ1 as ∧ c ((as.map (res ρ1)) ++ dds.map .dat) (kDefO2 ρ1 QL as) (kDefX ρ1 Z as)
def kvDef2 : Sv → List Sv → Prop := fun r _ => match r with
  | .dat d => QV d
  | .own _ xs => QV (.lst xs)
  | _ => False
def kNoX : Exc → List Sv → Prop := fun _ _ => False
def kvDef1 (c : Ctr) (dds : List D) : List D → Prop := fun as => c (as.map .dat ++ dds.map .dat) (kvDef2 QV) kNoX
def kLc (g : AG) (tt : AT) (te : AE) (vs : List Nat) : List D → List Sv → Prop := fun ds ρ1 => (∀ i ∈ vs, noOwn ρ1 i) ∧ aComp g tt te vs QL ds [] ρ1
def kgCons (gu : AGs) (r : List D) (R : List Sv → Prop) : List Sv → Prop := fun ρ1 => gu r ρ1 R
def kAsg (g : AG) : KD := fun d ρ1 => g d ρ1 E.nx
def kSetO (i : Nat) : List D → List Sv → Prop := fun xs ρ1 => okSet ρ1 i ∧ E.nx (ρ1.set i (.own false xs))
def kDrop : KD := fun _ ρ1 => E.nx ρ1
def kRet : KD := fun d ρ1 => E.rt (.dat d) ρ1
def kRetO : List D → List Sv → Prop := fun xs ρ1 => E.rt (.own false xs) ρ1
def kIf (t u : AS) : Bool → List Sv → Prop := fun b ρ1 => if b = true then t E ρ1 else u E ρ1
def kFor (g : AG) (tb : AS) : List D → List Sv → Prop := fun ds ρ1 => aLoop g tb E ds ρ1
def kPar2 (i j : Nat) (x : D) : KD := fun y ρ2 => okSet ρ2 i ∧ okSet (ρ2.set i (.dat x)) j ∧ E.nx ((ρ2.set i (.dat x)).set j (.dat y))
def kPar1 (i j : Nat) : KD := fun x ρ1 => tb ρ1 (kPar2 E i j x) E.xx
def kApp (i : Nat) : KD := fun d ρ1 => match ρ1[i]? with
  | some (.own b xs) => xs.length < sizeLine ∧ E.nx (ρ1.set i (.own b (xs ++ [d])))
  | _ => False
def kPut2 (i : Nat) (d : D) : KD := fun k ρ2 => match k, ρ2[i]? with
  | .int k, some (.own b xs) => ∃ j, ixN xs.length k = some j ∧ E.nx (ρ2.set i (.own b (xs.set j d)))
  | _, _ => False
def kPut1 (i : Nat) (tk : AE) : KD := fun d ρ1 => isOwn ρ1 i ∧ tk ρ1 (kPut2 E i d) E.xx
def kAug2 (i : Nat) : List Sv → D → Prop := fun ρ1 z => okSet ρ1 i ∧ E.nx (ρ1.set i (.dat z))
def kAug1 (i : Nat) (d : D) : KD := fun e ρ1 => b d e (kAug2 E i ρ1)
end
section
variable {ρ ρ1 : List Sv} {Q : KD} {QV : D → Prop} {Z : KX} {QB : Bool → List Sv → Prop} {QL : List D → List Sv → Prop} {QW : List D → Prop} {QA : List Ar → List Sv → Prop} {QP : Option Int → List Sv → Prop} {b b' : D → D → (D → Prop) → Prop} {b1 : D → (D → Prop) → Prop} {β : List D → (D → Prop) → Prop} {ta tb te : AE} {va vb vc : AV} {t u : AT} {oa ob : AO} {aa : AA} {av : VA} {E : AEnds} {x y d : D} {ds xs : List D} {c : Bool} {i j : Nat}
@[simp ↓] theorem q_kAt : kAt ρ Q x = Q x ρ := keep rfl
@[simp ↓] theorem q_aVar : aVar i ρ Q Z = (match ρ[i]? with
  | some (.dat d) => Q d ρ
  | some (.own false xs) => Q (.lst xs) (ρ.set i (.dat (.lst xs)))
  | some (.tre (.frz _ d)) => Q d ρ
  | some (.tre t) => t.shut ∧ Q t.strip (ρ.set i (.dat t.strip))
  | _ => False) := keep rfl
@[simp ↓] theorem q_aC : aC d ρ Q Z = Q d ρ := keep rfl
@[simp ↓] theorem q_vVar : vVar i ρ QV = (match ρ[i]? with
  | some (.dat d) => QV d
  | some (.own _ xs) => QV (.lst xs)
  | some (.tre t) => t.shut ∧ QV t.strip
  | _ => False) := keep rfl
@[simp ↓] theorem q_vC : vC d ρ QV = QV d := keep rfl
@[simp ↓] theorem q_aOp : aOp b ta tb ρ Q Z = ta ρ (kOp1 Q Z b tb) Z := keep rfl
@[simp ↓] theorem q_kOp1 : kOp1 Q Z b tb x ρ1 = tb ρ1 (kOp2 Q b x) Z := keep rfl
@[simp ↓] theorem q_kOp2 : kOp2 Q b x y ρ1 = b x y (kAt ρ1 Q) := keep rfl
@[simp ↓] theorem q_vOp : vOp b va vb ρ QV = va ρ (kvOp1 ρ QV b vb) := keep rfl
@[simp ↓] theorem q_kvOp1 : kvOp1 ρ QV b vb x = vb ρ (kvOp2 QV b x) := keep rfl
@[simp ↓] theorem q_kvOp2 : kvOp2 QV b x y = b x y QV := keep rfl
@[simp ↓] theorem q_aUn : aUn b1 ta ρ Q Z = ta ρ (kUn Q b1) Z := keep rfl
@[simp ↓] theorem q_kUn : kUn Q b1 x ρ1 = b1 x (kAt ρ1 Q) := keep rfl
@[simp ↓] theorem q_vUn : vUn b1 va ρ QV = va ρ (kvUn QV b1) := keep rfl
@[simp ↓] theorem q_kvUn : kvUn QV b1 x = b1 x QV := keep rfl
@[simp ↓] theorem q_aFlat : aFlat va ρ Q Z = va ρ (kFlat ρ Q) := keep rfl
@[simp ↓] theorem q_kFlat : kFlat ρ Q d = (d.flat = true ∧ Q d ρ) := keep rfl
@[simp ↓] theorem q_aTr : aTr ta ρ QB Z = ta ρ (kTr QB) Z := keep rfl
@[simp ↓] theorem q_kTr : kTr QB d ρ1 = (d.truOk ∧ QB d.tru ρ1) := keep rfl
@[simp ↓] theorem q_vTr : vTr va ρ QB Z = va ρ (kvTr ρ QB) := keep rfl
@[simp ↓] theorem q_kvTr : kvTr ρ QB d = (d.truOk ∧ QB d.tru ρ) := keep rfl
@[simp ↓] theorem q_aNot : aNot t ρ QB Z = t ρ (kNot QB) Z := keep rfl
@[simp ↓] theorem q_kNot : kNot QB c ρ1 = QB (!c) ρ1 := keep rfl
@[simp ↓] theorem q_aAnd : aAnd t u ρ QB Z = t ρ (kAnd Z QB u) Z := keep rfl
@[simp ↓] theorem q_kAnd : kAnd Z QB u c ρ1 = if c = true then u ρ1 QB Z else QB false ρ1 := keep rfl
@[simp ↓] theorem q_aOr : aOr t u ρ QB Z = t ρ (kOr Z QB u) Z := keep rfl
@[simp ↓] theorem q_kOr : kOr Z QB u c ρ1 = if c = true then QB true ρ1 else u ρ1 QB Z := keep rfl
@[simp ↓] theorem q_aAndV : aAndV ta tb ρ Q Z = ta ρ (kAndV Q Z tb) Z := keep rfl
@[simp ↓] theorem q_kAndV : kAndV Q Z tb x ρ1 = (x.truOk ∧ if x.tru = true then tb ρ1 Q Z else Q x ρ1) := keep rfl
@[simp ↓] theorem q_aOrV : aOrV ta tb ρ Q Z = ta ρ (kOrV Q Z tb) Z := keep rfl
@[simp ↓] theorem q_kOrV : kOrV Q Z tb x ρ1 = (x.truOk ∧ if x.tru = true then Q x ρ1 else tb ρ1 Q Z) := keep rfl
@[simp ↓] theorem q_vAndV : vAndV va vb ρ QV = va ρ (kvAndV ρ QV vb) := keep rfl
@[simp ↓] theorem q_kvAndV : kvAndV ρ QV vb x = (x.truOk ∧ if x.tru = true then vb ρ QV else QV x) := keep rfl
@[simp ↓] theorem q_vOrV : vOrV va vb ρ QV = va ρ (kvOrV ρ QV vb) := keep rfl
@[simp ↓] theorem q_kvOrV : kvOrV ρ QV vb x = (x.truOk ∧ if x.tru = true then QV x else vb ρ QV) := keep rfl
@[simp ↓] theorem q_bNot : bNot x QV = (x.truOk ∧ QV (.bl (!x.tru))) := keep rfl
@[simp ↓] theorem q_aIfE : aIfE t ta tb ρ Q Z = t ρ (kIfE Q Z ta tb) Z := keep rfl
@[simp ↓] theorem q_kIfE : kIfE Q Z ta tb c ρ1 = if c = true then ta ρ1 Q Z else tb ρ1 Q Z := keep rfl
@[simp ↓] theorem q_aFrz : aFrz oa ρ Q Z = oa ρ (kFrz Q) Z := keep rfl
@[simp ↓] theorem q_kFrz : kFrz Q xs ρ1 = Q (.lst xs) ρ1 := keep rfl
@[simp ↓] theorem q_aNil : aNil ρ QL Z = QL [] ρ := keep rfl
@[simp ↓] theorem q_vNil : vNil ρ QW = QW [] := keep rfl
@[simp ↓] theorem q_aCons : aCons ta aa ρ QL Z = ta ρ (kCons1 Z QL aa) Z := keep rfl
@[simp ↓] theorem q_kCons1 : kCons1 Z QL aa d ρ1 = aa ρ1 (kCons2 QL d) Z := keep rfl
@[simp ↓] theorem q_kCons2 : kCons2 QL d ds ρ1 = QL (d :: ds) ρ1 := keep rfl
@[simp ↓] theorem q_vCons : vCons va av ρ QW = va ρ (kvCons1 ρ QW av) := keep rfl
@[simp ↓] theorem q_kvCons1 : kvCons1 ρ QW av d = av ρ (kvCons2 QW d) := keep rfl
@[simp ↓] theorem q_kvCons2 : kvCons2 QW d ds = QW (d :: ds) := keep rfl
@[simp ↓] theorem q_aTup : aTup aa ρ Q Z = aa ρ (kTup Q) Z := keep rfl
@[simp ↓] theorem q_kTup : kTup Q ds ρ1 = (ds.length ≤ sizeLine ∧ Q (.tup ds) ρ1) := keep rfl
@[simp ↓] theorem q_vTup : vTup av ρ QV = av ρ (kvTup QV) := keep rfl
@[simp ↓] theorem q_kvTup : kvTup QV ds = (ds.length ≤ sizeLine ∧ QV (.tup ds)) := keep rfl
@[simp ↓] theorem q_oLst : oLst aa ρ QL Z = aa ρ (kLst QL) Z := keep rfl
@[simp ↓] theorem q_kLst : kLst QL ds ρ1 = (ds.length ≤ sizeLine ∧ QL ds ρ1) := keep rfl
@[simp ↓] theorem q_vLst : vLst av ρ QV = av ρ (kvLst QV) := keep rfl
@[simp ↓] theorem q_kvLst : kvLst QV ds = (ds.length ≤ sizeLine ∧ QV (.lst ds)) := keep rfl
@[simp ↓] theorem q_aDic : aDic ρ Q Z = Q .dic ρ := keep rfl
@[simp ↓] theorem q_aCall : aCall β aa ρ Q Z = aa ρ (kCall Q β) Z := keep rfl
@[simp ↓] theorem q_kCall : kCall Q β ds ρ1 = β ds (kAt ρ1 Q) := keep rfl
@[simp ↓] theorem q_vCall : vCall β av ρ QV = av ρ (kvCall QV β) := keep rfl
@[simp ↓] theorem q_kvCall : kvCall QV β ds = β ds QV := keep rfl
@[simp ↓] theorem q_vIsi {T : String} : vIsi T va ρ QV = va ρ (kIsi QV T) := keep rfl
@[simp ↓] theorem q_kIsi {T : String} : kIsi QV T d = (d.noObj ∧ QV (.bl (isTy T d))) := keep rfl
@[simp ↓] theorem q_vIsi2 {T U : String} : vIsi2 T U va ρ QV = va ρ (kIsi2 QV T U) := keep rfl
@[simp ↓] theorem q_kIsi2 {T U : String} : kIsi2 QV T U d = (d.noObj ∧ QV (.bl (isTy T d || isTy U d))) := keep rfl
@[simp ↓] theorem q_aNoP : aNoP ρ QP Z = QP none ρ := keep rfl
@[simp ↓] theorem q_aPart : aPart ta ρ QP Z = ta ρ (kPart QP) Z := keep rfl
@[simp ↓] theorem q_kPart : kPart QP d ρ1 = (∃ i, d = .int i ∧ QP (some i) ρ1) := keep rfl
variable {tl th : AP} {l v : Option Int} {k : Int} {s : Str} {bo : Bool}
@[simp ↓] theorem q_oSl : oSl ta tl th ρ QL Z = ta ρ (kSlO1 Z QL tl th) Z := keep rfl
@[simp ↓] theorem q_kSlO1 : kSlO1 Z QL tl th d ρ1 = tl ρ1 (kSlO2 Z QL th d) Z := keep rfl
@[simp ↓] theorem q_kSlO2 : kSlO2 Z QL th d l ρ1 = th ρ1 (kSlO3 QL d l) Z := keep rfl
@[simp ↓] theorem q_kSlO3 : kSlO3 QL d l v ρ1 = (∃ xs, d = .lst xs ∧ QL (cutD xs l v) ρ1) := keep rfl
@[simp ↓] theorem q_aSl : aSl ta tl th ρ Q Z = ta ρ (kSl1 Q Z tl th) Z := keep rfl
@[simp ↓] theorem q_kSl1 : kSl1 Q Z tl th d ρ1 = tl ρ1 (kSl2 Q Z th d) Z := keep rfl
@[simp ↓] theorem q_kSl2 : kSl2 Q Z th d l ρ1 = th ρ1 (kSl3 Q d l) Z := keep rfl
@[simp ↓] theorem q_kSl3s : kSl3 Q (.str s) l v ρ1 = (s.length ≤ sizeLine ∧ Q (.str (cutS s l v)) ρ1) := keep rfl
@[simp ↓] theorem q_kSl3l : kSl3 Q (.lst xs) l v ρ1 = Q (.lst (cutD xs l v)) ρ1 := keep rfl
@[simp ↓] theorem q_kSl3t : kSl3 Q (.tup xs) l v ρ1 = (¬ (HT.sIx xs.length 0 l = 0 ∧ HT.sIx xs.length xs.length v = xs.length) ∧ Q (.tup (cutD xs l v)) ρ1) := keep rfl
@[simp ↓] theorem q_aOwnIx : aOwnIx i ta ρ Q Z = (isOwn ρ i ∧ ta ρ (kOwnIx Q i) Z) := keep rfl
@[simp ↓] theorem q_kOwnIx : kOwnIx Q i (.int k) ρ1 = (match ρ1[i]? with
  | some (.own _ xs) => ∃ d, atI xs k = some d ∧ Q d ρ1
  | _ => False) := by
  unfold kOwnIx
  rcases ρ1[i]? with _ | (_ | _ | ⟨_, _⟩) <;> rfl
@[simp ↓] theorem q_oCat : oCat ta tb ρ QL Z = ta ρ (kCat1 Z QL tb) Z := keep rfl
@[simp ↓] theorem q_kCat1 : kCat1 Z QL tb x ρ1 = tb ρ1 (kCat2 QL x) Z := keep rfl
@[simp ↓] theorem q_kCat2 {ys : List D} : kCat2 QL (.lst xs) (.lst ys) ρ1 = (xs.length + ys.length ≤ sizeLine ∧ QL (xs ++ ys) ρ1) := keep rfl
@[simp ↓] theorem q_oRep : oRep oa tb ρ QL Z = oa ρ (kRep1 Z QL tb) Z := keep rfl
@[simp ↓] theorem q_kRep1 : kRep1 Z QL tb xs ρ1 = tb ρ1 (kRep2 QL xs) Z := keep rfl
@[simp ↓] theorem q_kRep2 : kRep2 QL xs (.int k) ρ1 = (-(2 ^ 63) ≤ k ∧ k < 2 ^ 63 ∧ xs.length * k.toNat ≤ sizeLine ∧ QL (List.replicate k.toNat xs).flatten ρ1) := keep rfl
@[simp ↓] theorem q_oList : oList aa ρ QL Z = aa ρ (kList QL) Z := keep rfl
@[simp ↓] theorem q_kListL : kList QL [.lst xs] ρ1 = QL xs ρ1 := keep rfl
@[simp ↓] theorem q_kListT : kList QL [.tup xs] ρ1 = QL xs ρ1 := keep rfl
@[simp ↓] theorem q_iAny : iAny ta ρ QL Z = ta ρ (kAny QL) Z := keep rfl
@[simp ↓] theorem q_kAnyL : kAny QL (.lst xs) ρ1 = QL xs ρ1 := keep rfl
@[simp ↓] theorem q_kAnyT : kAny QL (.tup xs) ρ1 = QL xs ρ1 := keep rfl
@[simp ↓] theorem q_kAnyS : kAny QL (.str s) ρ1 = QL (signsD s) ρ1 := keep rfl
@[simp ↓] theorem q_iRange1 : iRange1 aa ρ QL Z = aa ρ (kRange1 QL) Z := keep rfl
@[simp ↓] theorem q_kRange1 : kRange1 QL [.int k] ρ1 = (-(2 ^ 62) ≤ k ∧ k < 2 ^ 62 ∧ QL (rangeD 0 k.toNat) ρ1) := keep rfl
@[simp ↓] theorem q_iRange2 : iRange2 aa ρ QL Z = aa ρ (kRange2 QL) Z := keep rfl
@[simp ↓] theorem q_kRange2 {m n : Int} : kRange2 QL [.int m, .int n] ρ1 = ((-(2 ^ 62) ≤ m ∧ m < 2 ^ 62 ∧ -(2 ^ 62) ≤ n ∧ n < 2 ^ 62) ∧ QL (rangeD m (n - m).toNat) ρ1) := keep rfl
@[simp ↓] theorem q_iEnumD : iEnumD aa ρ QL Z = aa ρ (kEnum QL) Z := keep rfl
@[simp ↓] theorem q_kEnum : kEnum QL [.lst xs] ρ1 = QL (enumD xs) ρ1 := keep rfl
@[simp ↓] theorem q_iZipD : iZipD aa ρ QL Z = aa ρ (kZip QL) Z := keep rfl
@[simp ↓] theorem q_kZip {ys : List D} : kZip QL [.lst xs, .lst ys] ρ1 = QL (zipD xs ys) ρ1 := keep rfl
@[simp ↓] theorem q_vChain : vChain b b' va vb vc ρ QV = va ρ (kCh1 ρ QV b b' vb vc) := keep rfl
@[simp ↓] theorem q_kCh1 : kCh1 ρ QV b b' vb vc x = vb ρ (kCh2 ρ QV b b' vc x) := keep rfl
@[simp ↓] theorem q_kCh2 : kCh2 ρ QV b b' vc x y = b x y (kCh3 ρ QV b' vc y) := keep rfl
@[simp ↓] theorem q_kCh3 {z : D} : kCh3 ρ QV b' vc y z = (∃ k, z = .bl k ∧ (if k = true then vc ρ (kCh4 QV b' y) else QV (.bl false))) := keep rfl
@[simp ↓] theorem q_kCh4 {z : D} : kCh4 QV b' y z = b' y z QV := keep rfl
@[simp ↓] theorem q_tCmpE : tCmpE b ta tb ρ QB Z = aOp b ta tb ρ (kCmp QB) Z := keep rfl
@[simp ↓] theorem q_kCmp : kCmp QB d ρ1 = (∃ k, d = .bl k ∧ QB k ρ1) := keep rfl
@[simp ↓] theorem q_tCmpV : tCmpV b va vb ρ QB Z = vOp b va vb ρ (kvCmp ρ QB) := keep rfl
@[simp ↓] theorem q_kvCmp : kvCmp ρ QB d = (∃ k, d = .bl k ∧ QB k ρ) := keep rfl
@[simp ↓] theorem q_tChainV : tChainV b b' va vb vc ρ QB Z = vChain b b' va vb vc ρ (kvCmp ρ QB) := keep rfl
@[simp ↓] theorem q_aYes : aYes ρ QB Z = QB true ρ := keep rfl
variable {ua : AAr} {as : List Ar} {ct : Ctr} {dds : List D} {ρp : List Sv} {ex : Exc}
@[simp ↓] theorem q_rNil : rNil ρ QA Z = QA [] ρ := keep rfl
@[simp ↓] theorem q_rDat : rDat ta ua ρ QA Z = ta ρ (krDat1 Z QA ua) Z := keep rfl
@[simp ↓] theorem q_krDat1 : krDat1 Z QA ua d ρ1 = ua ρ1 (krDat2 QA d) Z := keep rfl
@[simp ↓] theorem q_krDat2 : krDat2 QA d as ρ1 = QA (.dat d :: as) ρ1 := keep rfl
@[simp ↓] theorem q_rIo : rIo i ua ρ QA Z = (isOwn ρ i ∧ ua ρ (krIo QA i) Z) := keep rfl
@[simp ↓] theorem q_krIo : krIo QA i as ρ1 = QA (.io i :: as) ρ1 := keep rfl
@[simp ↓] theorem q_aDef : aDef ct dds ua ρ Q Z = ua ρ (kDef1 Q Z ct dds) Z := keep rfl
@[simp ↓] theorem q_kDef1 : kDef1 Q Z ct dds as ρ1 = (lendOk ρ1 as ∧ ct ((as.map (res ρ1)) ++ dds.map .dat) (kDef2 ρ1 Q as) (kDefX ρ1 Z as)) := keep rfl
@[simp ↓] theorem q_kDef2d : kDef2 ρ Q as (.dat d) ρp = Q d (put ρ as ρp) := keep rfl
@[simp ↓] theorem q_kDef2o : kDef2 ρ Q as (.own bo xs) ρp = Q (.lst xs) (put ρ as ρp) := keep rfl
@[simp ↓] theorem q_kDefX : kDefX ρ Z as ex ρp = Z ex (put ρ as ρp) := keep rfl
@[simp ↓] theorem q_oDef : oDef ct dds ua ρ QL Z = ua ρ (kDefO1 Z QL ct dds) Z := keep rfl
@[simp ↓] theorem q_kDefO1 : kDefO1 Z QL ct dds as ρ1 = (lendOk ρ1 as ∧ ct ((as.map (res ρ1)) ++ dds.map .dat) (kDefO2 ρ1 QL as) (kDefX ρ1 Z as)) := keep rfl
@[simp ↓] theorem q_kDefO2 : kDefO2 ρ QL as (.own bo xs) ρp = QL xs (put ρ as ρp) := keep rfl
@[simp ↓] theorem q_vDef : vDef ct dds av ρ QV = av ρ (kvDef1 QV ct dds) := keep rfl
@[simp ↓] theorem q_kvDef1 : kvDef1 QV ct dds ds = ct (ds.map .dat ++ dds.map .dat) (kvDef2 QV) kNoX := keep rfl
@[simp ↓] theorem q_kvDef2d : kvDef2 QV (.dat d) ρp = QV d := keep rfl
@[simp ↓] theorem q_kvDef2o : kvDef2 QV (.own bo xs) ρp = QV (.lst xs) := keep rfl
variable {ti : AI} {g : AG} {gu : AGs} {R : List Sv → Prop} {tt : AT} {vs : List Nat}
@[simp ↓] theorem q_oLc : oLc ti g tt te vs ρ QL Z = ti ρ (kLc QL g tt te vs) Z := keep rfl
@[simp ↓] theorem q_kLc : kLc QL g tt te vs ds ρ1 = ((∀ i ∈ vs, noOwn ρ1 i) ∧ aComp g tt te vs QL ds [] ρ1) := keep rfl
@[simp ↓] theorem q_agName : agName i d ρ R = (okSet ρ i ∧ R (ρ.set i (.dat d))) := keep rfl
@[simp ↓] theorem q_agNil : agNil ds ρ R = (ds = [] ∧ R ρ) := keep rfl
@[simp ↓] theorem q_agCons : agCons g gu (d :: ds) ρ R = g d ρ (kgCons gu ds R) := keep rfl
@[simp ↓] theorem q_kgCons : kgCons gu ds R ρ1 = gu ds ρ1 R := keep rfl
@[simp ↓] theorem q_agTupT : agTup gu (.tup ds) ρ R = gu ds ρ R := keep rfl
@[simp ↓] theorem q_agTupL : agTup gu (.lst ds) ρ R = gu ds ρ R := keep rfl
variable {st su : AS}
@[simp ↓] theorem q_sAsg : sAsg ta g E ρ = ta ρ (kAsg E g) E.xx := keep rfl
@[simp ↓] theorem q_kAsg : kAsg E g d ρ1 = g d ρ1 E.nx := keep rfl
@[simp ↓] theorem q_sSetO : sSetO oa i E ρ = oa ρ (kSetO E i) E.xx := keep rfl
@[simp ↓] theorem q_kSetO : kSetO E i xs ρ1 = (okSet ρ1 i ∧ E.nx (ρ1.set i (.own false xs))) := keep rfl
@[simp ↓] theorem q_sDrop : sDrop ta E ρ = ta ρ (kDrop E) E.xx := keep rfl
@[simp ↓] theorem q_kDrop : kDrop E d ρ1 = E.nx ρ1 := keep rfl
@[simp ↓] theorem q_sRet : sRet ta E ρ = ta ρ (kRet E) E.xx := keep rfl
@[simp ↓] theorem q_kRet : kRet E d ρ1 = E.rt (.dat d) ρ1 := keep rfl
@[simp ↓] theorem q_sRetO : sRetO oa E ρ = oa ρ (kRetO E) E.xx := keep rfl
@[simp ↓] theorem q_kRetO : kRetO E xs ρ1 = E.rt (.own false xs) ρ1 := keep rfl
@[simp ↓] theorem q_sRetV : sRetV i E ρ = (match ρ[i]? with
  | some (.dat d) => E.rt (.dat d) ρ
  | some (.own false xs) => E.rt (.own false xs) (ρ.set i .un)
  | _ => False) := by
  unfold sRetV
  rcases ρ[i]? with _ | (_ | _ | ⟨_ | _, _⟩ | _ | _) <;> rfl
@[simp ↓] theorem q_sRetN : sRetN E ρ = E.rt (.dat .non) ρ := keep rfl
@[simp ↓] theorem q_sNx : sNx E ρ = E.nx ρ := keep rfl
@[simp ↓] theorem q_sSeq : sSeq st su E ρ = st { E with nx := su E } ρ := keep rfl
@[simp ↓] theorem q_sIf : sIf t st su E ρ = t ρ (kIf E st su) E.xx := keep rfl
@[simp ↓] theorem q_kIf : kIf E st su c ρ1 = if c = true then st E ρ1 else su E ρ1 := keep rfl
@[simp ↓] theorem q_sFor : sFor ti g st E ρ = ti ρ (kFor E g st) E.xx := keep rfl
@[simp ↓] theorem q_kFor : kFor E g st ds ρ1 = aLoop g st E ds ρ1 := keep rfl
@[simp ↓] theorem q_sPar : sPar i j ta tb E ρ = ta ρ (kPar1 tb E i j) E.xx := keep rfl
@[simp ↓] theorem q_kPar1 : kPar1 tb E i j x ρ1 = tb ρ1 (kPar2 E i j x) E.xx := keep rfl
@[simp ↓] theorem q_kPar2 : kPar2 E i j x y ρ1 = (okSet ρ1 i ∧ okSet (ρ1.set i (.dat x)) j ∧ E.nx ((ρ1.set i (.dat x)).set j (.dat y))) := keep rfl
@[simp ↓] theorem q_sAppO : sAppO i ta E ρ = (isOwn ρ i ∧ ta ρ (kApp E i) E.xx) := keep rfl
@[simp ↓] theorem q_kApp : kApp E i d ρ1 = (match ρ1[i]? with
  | some (.own b xs) => xs.length < sizeLine ∧ E.nx (ρ1.set i (.own b (xs ++ [d])))
  | _ => False) := keep rfl
@[simp ↓] theorem q_sPutO {tk : AE} : sPutO i ta tk E ρ = ta ρ (kPut1 E i tk) E.xx := keep rfl
@[simp ↓] theorem q_kPut1 {tk : AE} : kPut1 E i tk d ρ1 = (isOwn ρ1 i ∧ tk ρ1 (kPut2 E i d) E.xx) := keep rfl
@[simp ↓] theorem q_kPut2 : kPut2 E i d (.int k) ρ1 = (match ρ1[i]? with
  | some (.own b xs) => ∃ j, ixN xs.length k = some j ∧ E.nx (ρ1.set i (.own b (xs.set j d)))
  | _ => False) := by
  unfold kPut2
  rcases ρ1[i]? with _ | (_ | _ | ⟨_, _⟩) <;> rfl
@[simp ↓] theorem q_sAug {te : AE} : sAug i b te E ρ = (match ρ[i]? with
  | some (.dat d) => te ρ (kAug1 b E i d) E.xx
  | _ => False) := keep rfl
@[simp ↓] theorem q_kAug1 {e : D} : kAug1 b E i d e ρ1 = b d e (kAug2 E i ρ1) := keep rfl
@[simp ↓] theorem q_kAug2 {z : D} : kAug2 E i ρ1 z = (okSet ρ1 i ∧ E.nx (ρ1.set i (.dat z))) := keep rfl
end
/-! operators -/
section
variable {i j : Int} {x y : Str} {xs ys : List D} {d e : D} {Q : D → Prop}
@[simp ↓] theorem q_bI {C : Int → Int → Prop} {g : Int → Int → D} : bI C g (.int i) (.int j) Q = (C i j ∧ Q (g i j)) := keep rfl
@[simp ↓] theorem q_bAddI : bAdd (.int i) (.int j) Q = Q (.int (i + j)) := keep rfl
@[simp ↓] theorem q_bAddS : bAdd (.str x) (.str y) Q = (x.length + y.length ≤ sizeLine ∧ Q (.str (x ++ y))) := keep rfl
@[simp ↓] theorem q_bAddL : bAdd (.lst xs) (.lst ys) Q = (xs.length + ys.length ≤ sizeLine ∧ Q (.lst (xs ++ ys))) := keep rfl
@[simp ↓] theorem q_bSub : bSub (.int i) (.int j) Q = Q (.int (i - j)) := by simp [bSub]
@[simp ↓] theorem q_bMul : bMul (.int i) (.int j) Q = (CMulA i j ∧ Q (.int (i * j))) := keep rfl
@[simp ↓] theorem q_bDiv : bDiv (.int i) (.int j) Q = (CDivW i j ∧ Q (.int (i / j))) := keep rfl
@[simp ↓] theorem q_bMod : bMod (.int i) (.int j) Q = (0 < j ∧ Q (.int (i % j))) := keep rfl
@[simp ↓] theorem q_bPow : bPow (.int i) (.int j) Q = (CPow i j ∧ Q (.int (i ^ j.toNat))) := keep rfl
@[simp ↓] theorem q_bNeg : bNeg (.int i) Q = Q (.int (-i)) := keep rfl
@[simp ↓] theorem q_bOrdI {f : Int → Int → Bool} {g : List Nat → List Nat → Bool} : bOrd f g (.int i) (.int j) Q = Q (.bl (f i j)) := keep rfl
@[simp ↓] theorem q_bOrdS {f : Int → Int → Bool} {g : List Nat → List Nat → Bool} : bOrd f g (.str x) (.str y) Q = Q (.bl (g x.cps.toList y.cps.toList)) := keep rfl
@[simp ↓] theorem q_bIsN : bIsN d e Q = (e = .non ∧ Q (.bl d.isN)) := keep rfl
@[simp ↓] theorem q_bNotN : bNotN d e Q = (e = .non ∧ Q (.bl (!d.isN))) := keep rfl
@[simp ↓] theorem q_bEq : bEq d e Q = (eqOk2 d e ∧ Q (.bl (PyData.eqv d.py e.py))) := keep rfl
@[simp ↓] theorem q_bNe : bNe d e Q = (eqOk2 d e ∧ Q (.bl (!PyData.eqv d.py e.py))) := keep rfl
@[simp ↓] theorem q_bIxL : bIx (.lst xs) (.int i) Q = (∃ d, atI xs i = some d ∧ Q d) := keep rfl
@[simp ↓] theorem q_bIxT : bIx (.tup xs) (.int i) Q = (∃ d, atI xs i = some d ∧ Q d) := keep rfl
@[simp ↓] theorem q_bIxS : bIx (.str x) (.int i) Q = (x.length ≤ sizeLine ∧ ∃ c, atI x.cps.toList i = some c ∧ Q (.str ⟨#[c]⟩)) := keep rfl
@[simp ↓] theorem q_bLenS : bLen [.str x] Q = (x.length ≤ sizeLine ∧ Q (.int x.length)) := keep rfl
@[simp ↓] theorem q_bLenL : bLen [.lst xs] Q = Q (.int xs.length) := keep rfl
@[simp ↓] theorem q_bLenT : bLen [.tup xs] Q = Q (.int xs.length) := keep rfl
@[simp ↓] theorem q_bOrdC : bOrdC [.str x] Q = (x.length = 1 ∧ Q (.int (x.cps.getD 0 0 : Nat))) := keep rfl
@[simp ↓] theorem q_bIntI : bInt [.int i] Q = Q (.int i) := keep rfl
@[simp ↓] theorem q_bIntB {k : Bool} : bInt [.bl k] Q = Q (.int (if k then 1 else 0)) := keep rfl
@[simp ↓] theorem q_bMin : bMin [.int i, .int j] Q = Q (.int (if j < i then j else i)) := keep rfl
@[simp ↓] theorem q_bAbs : bAbs [.int i] Q = Q (.int (if i < 0 then -i else i)) := keep rfl
@[simp ↓] theorem q_bSum : bSum [.lst xs] Q = (∃ ns, intsOf xs = some ns ∧ Q (.int ns.sum)) := keep rfl
@[simp ↓] theorem q_bAll : bAll [.lst xs] Q = (∃ ns, blsOf xs = some ns ∧ Q (.bl (ns.all id))) := keep rfl
@[simp ↓] theorem q_bAny : bAny [.lst xs] Q = (∃ ns, blsOf xs = some ns ∧ Q (.bl (ns.any id))) := keep rfl
@[simp ↓] theorem q_bTupleL : bTuple [.lst xs] Q = Q (.tup xs) := keep rfl
@[simp ↓] theorem q_bTupleT : bTuple [.tup xs] Q = Q (.tup xs) := keep rfl
@[simp ↓] theorem q_bRepr : bRepr [d] Q = (d.shOk ∧ Q (.str d.py.shown)) := keep rfl
@[simp ↓] theorem q_flat1 : D.flat (.int i) = true := keep rfl
@[simp ↓] theorem q_flat2 : D.flat (.str x) = true := keep rfl
@[simp ↓] theorem q_flat3 {b : Bool} : D.flat (.bl b) = true := keep rfl
@[simp ↓] theorem q_flat4 : D.flat .non = true := keep rfl
@[simp ↓] theorem q_tru1 {b : Bool} : D.tru (.bl b) = b := keep rfl
@[simp ↓] theorem q_tru2 : D.tru .non = false := keep rfl
@[simp ↓] theorem q_tru3 : D.tru (.int i) = (i != 0) := keep rfl
@[simp ↓] theorem q_tru4 : D.tru (.lst xs) = !xs.isEmpty := keep rfl
@[simp ↓] theorem q_tru5 : D.tru (.tup xs) = !xs.isEmpty := keep rfl
@[simp ↓] theorem q_tok1 {b : Bool} : D.truOk (.bl b) = True := keep rfl
@[simp ↓] theorem q_tok2 : D.truOk .non = True := keep rfl
@[simp ↓] theorem q_tok3 : D.truOk (.int i) = True := keep rfl
@[simp ↓] theorem q_tok4 : D.truOk (.lst xs) = True := keep rfl
@[simp ↓] theorem q_tok5 : D.truOk (.tup xs) = True := keep rfl
@[simp ↓] theorem q_isN1 : D.isN .non = true := keep rfl
@[simp ↓] theorem q_isN2 : D.isN (.int i) = false := keep rfl
@[simp ↓] theorem q_isN3 : D.isN (.str x) = false := keep rfl
@[simp ↓] theorem q_isN4 : D.isN (.tup xs) = false := keep rfl
@[simp ↓] theorem q_isN5 : D.isN (.lst xs) = false := keep rfl
end
@[simp] theorem eqOk2_def {d e : D} : eqOk2 d e = (d.eqOk ∧ e.eqOk ∨ d.isS = true ∧ e.isS = true) := rfl
@[simp] theorem isS_strD {x : Str} : (D.str x).isS = true := rfl
/-! slots -/
/-- a name may get another value -/
def okV : Sv → Prop
  | .own true _ => False
  | _ => True
def okO : Option Sv → Prop
  | some v => okV v
  | none => False
/-- no own list -/
def noV : Sv → Prop
  | .own _ _ => False
  | .tre _ => False
  | _ => True
def noO : Option Sv → Prop
  | some v => noV v
  | none => True
@[simp] theorem okO_some {v : Sv} : okO (some v) = okV v := rfl
@[simp] theorem noO_some {v : Sv} : noO (some v) = noV v := rfl
@[simp] theorem okV_dat {d : D} : okV (.dat d) = True := rfl
@[simp] theorem okV_un : okV .un = True := rfl
@[simp] theorem okV_tre {t : Tr} : okV (.tre t) = True := rfl
@[simp] theorem okV_own {xs : List D} : okV (.own false xs) = True := rfl
@[simp] theorem noV_dat {d : D} : noV (.dat d) = True := rfl
@[simp] theorem noV_un : noV .un = True := rfl
theorem okV_of {v : Sv} (h : noV v) : okV v := by
  cases v <;> first | trivial | exact h.elim
section
variable {ρ : List Sv} {i : Nat}
@[simp ↓] theorem q_okSet : okSet ρ i = okO ρ[i]? := by
  unfold okSet okO okV
  rcases ρ[i]? with _ | (_ | _ | ⟨_ | _, _⟩ | _ | _) <;> rfl
@[simp ↓] theorem q_isOwn : isOwn ρ i = (match ρ[i]? with
  | some (.own _ _) => True
  | _ => False) := keep rfl
@[simp ↓] theorem q_noOwn : noOwn ρ i = noO ρ[i]? := by
  unfold noOwn noO noV
  rcases ρ[i]? with _ | (_ | _ | ⟨_, _⟩ | _ | _) <;> rfl
@[simp ↓] theorem q_resD {d : D} : res ρ (.dat d) = .dat d := keep rfl
@[simp ↓] theorem q_resI : res ρ (.io i) = (match ρ[i]? with
  | some (.own _ xs) => .own true xs
  | _ => .un) := keep rfl
@[simp ↓] theorem q_put0 {ps : List Sv} : put ρ [] ps = ρ := by unfold put; cases ps <;> rfl
@[simp ↓] theorem q_put1 {as : List Ar} {xs : List D} {ps : List Sv} : put ρ (.io i :: as) (.own true xs :: ps) = put (match ρ[i]? with
  | some (.own b _) => ρ.set i (.own b xs)
  | _ => ρ) as ps := by conv => lhs; unfold put
                        rfl
@[simp ↓] theorem q_put2 {as : List Ar} {d : D} {p : Sv} {ps : List Sv} : put ρ (.dat d :: as) (p :: ps) = put ρ as ps := by conv => lhs; unfold put
@[simp ↓] theorem q_put3 {as : List Ar} {d : D} : put ρ (.dat d :: as) [] = ρ := by unfold put; rfl
theorem put_datsA : ∀ (as : List D) (ρ ps : List Sv), put ρ (as.map .dat) ps = ρ
  | [], _, _ => q_put0
  | d :: as, ρ, [] => q_put3
  | d :: as, ρ, p :: ps => by rw [List.map_cons, q_put2]; exact put_datsA as ρ ps
@[simp ↓] theorem q_putD1 {d : D} {ps : List Sv} : put ρ [.dat d] ps = ρ := put_datsA [d] ρ ps
@[simp ↓] theorem q_putD2 {d e : D} {ps : List Sv} : put ρ [.dat d, .dat e] ps = ρ := put_datsA [d, e] ρ ps
@[simp ↓] theorem q_putD3 {d e f : D} {ps : List Sv} : put ρ [.dat d, .dat e, .dat f] ps = ρ := put_datsA [d, e, f] ρ ps
@[simp ↓] theorem q_ios0 : iosOf [] = [] := keep rfl
@[simp ↓] theorem q_ios1 {d : D} {as : List Ar} : iosOf (.dat d :: as) = iosOf as := keep rfl
@[simp ↓] theorem q_ios2 {as : List Ar} : iosOf (.io i :: as) = i :: iosOf as := keep rfl
@[simp ↓] theorem q_lend {as : List Ar} : lendOk ρ as = ((∀ i ∈ iosOf as, isOwn ρ i) ∧ (iosOf as).Nodup) := keep rfl
@[simp ↓] theorem q_startA {n : Nat} : startA n ρ = ρ ++ List.replicate (n - ρ.length) .un := keep rfl
@[simp ↓] theorem q_wipe0 : wipeA ρ [] = ρ := keep rfl
@[simp ↓] theorem q_wipe1 {v : Nat} {vs : List Nat} : wipeA ρ (v :: vs) = (wipeA ρ vs).set v .un := keep rfl
@[simp ↓] theorem q_rest0 {ρ3 : List Sv} : restA ρ ρ3 [] = ρ3 := keep rfl
@[simp ↓] theorem q_rest1 {ρ3 : List Sv} {v : Nat} {vs : List Nat} : restA ρ ρ3 (v :: vs) = (restA ρ ρ3 vs).set v (ρ.getD v .un) := keep rfl
end
/-- the rest of the body under a name -/
theorem seq_hide {t u : AS} {E : AEnds} {ρ : List Sv} (h : ∀ u', u' = u → t { E with nx := u' E } ρ) : sSeq t u E ρ := h u rfl
/-! loops and comprehensions -/
theorem loop_of {g : AG} {tb : AS} {E : AEnds} (I : List D → List Sv → Prop) (h0 : ∀ ρ, I [] ρ → E.nx ρ)
    (hs : ∀ d ds ρ (X : List Sv → Prop), I (d :: ds) ρ → (∀ ρ', I ds ρ' → X ρ') → g d ρ fun ρ1 => tb { E with nx := X, ct := X, bk := E.nx } ρ1) : ∀ ds ρ, I ds ρ → aLoop g tb E ds ρ
  | [], ρ, h => h0 ρ h
  | d :: ds, ρ, h => hs d ds ρ (aLoop g tb E ds) h (loop_of I h0 hs ds)
/-- .. where the body neither returns nor breaks off -/
theorem loop_ofE {g : AG} {tb : AS} {E : AEnds} (I : List D → List Sv → Prop) (h0 : ∀ ρ, I [] ρ → E.nx ρ)
    (hs : ∀ d ds ρ (E' : AEnds), I (d :: ds) ρ → (∀ ρ', I ds ρ' → E'.nx ρ') → g d ρ fun ρ1 => tb E' ρ1) : ∀ ds ρ, I ds ρ → aLoop g tb E ds ρ :=
  loop_of I h0 fun d ds ρ X h hX => hs d ds ρ _ h hX
theorem comp_of {g : AG} {tt : AT} {te : AE} {vs : List Nat} {Q : List D → List Sv → Prop} (I : List D → List D → List Sv → Prop) (h0 : ∀ acc ρ, I [] acc ρ → Q acc ρ)
    (hs : ∀ d ds acc ρ (X : List D → List Sv → Prop), I (d :: ds) acc ρ → (∀ acc' ρ', I ds acc' ρ' → X acc' ρ') → g d (wipeA ρ vs) fun ρ1 => tt ρ1 (fun b ρ2 => if b = true then te ρ2 (fun y ρ3 => acc.length < sizeLine ∧ X (acc ++ [y]) (restA ρ ρ3 vs)) noX else X acc (restA ρ ρ2 vs)) noX) : ∀ ds acc ρ, I ds acc ρ → aComp g tt te vs Q ds acc ρ
  | [], acc, ρ, h => h0 acc ρ h
  | d :: ds, acc, ρ, h => hs d ds acc ρ (fun a r => aComp g tt te vs Q ds a r) h (comp_of I h0 hs ds)
/-- a comprehension that keeps the slots as they are: each element by f -/
theorem comp_map {g : AG} {te : AE} {vs : List Nat} {Q : List D → List Sv → Prop} {ρ : List Sv} (f : D → D) {xs : List D} (hl : xs.length ≤ sizeLine)
    (hs : ∀ d ∈ xs, ∀ X : D → List Sv → Prop, X (f d) ρ → g d (wipeA ρ vs) fun ρ1 => te ρ1 (fun y ρ3 => X y (restA ρ ρ3 vs)) noX) (h : Q (xs.map f) ρ) : aComp g aYes te vs Q xs [] ρ := by
  refine comp_of (fun ds acc ρ' => ρ' = ρ ∧ ∃ ps, xs = ps ++ ds ∧ acc = ps.map f) (fun acc ρ' h0 => ?_) (fun d ds acc ρ' X hI hX => ?_) xs [] ρ ⟨rfl, [], rfl, rfl⟩
  · obtain ⟨rfl, ps, rfl, rfl⟩ := h0
    simpa using h
  · obtain ⟨rfl, ps, rfl, rfl⟩ := hI
    have := hs d (by simp) (fun y r => (ps.map f).length < sizeLine ∧ X (ps.map f ++ [y]) r) ⟨by simp at hl ⊢; omega, hX _ _ ⟨rfl, ps ++ [d], by simp, by simp⟩⟩
    simpa using this
/-- .. some elements, chosen by p -/
theorem comp_filter {g : AG} {tt : AT} {te : AE} {vs : List Nat} {Q : List D → List Sv → Prop} {ρ : List Sv} (p : D → Bool) (f : D → D) {xs : List D} (hl : xs.length ≤ sizeLine)
    (hs : ∀ d ∈ xs, ∀ X : Option D → List Sv → Prop, X (if p d then some (f d) else none) ρ → g d (wipeA ρ vs) fun ρ1 => tt ρ1 (fun b ρ2 => if b = true then te ρ2 (fun y ρ3 => X (some y) (restA ρ ρ3 vs)) noX else X none (restA ρ ρ2 vs)) noX) (h : Q ((xs.filter p).map f) ρ) : aComp g tt te vs Q xs [] ρ := by
  refine comp_of (fun ds acc ρ' => ρ' = ρ ∧ ∃ ps, xs = ps ++ ds ∧ acc = (ps.filter p).map f) (fun acc ρ' h0 => ?_) (fun d ds acc ρ' X hI hX => ?_) xs [] ρ ⟨rfl, [], rfl, rfl⟩
  · obtain ⟨rfl, ps, rfl, rfl⟩ := h0
    simpa using h
  · obtain ⟨rfl, ps, rfl, rfl⟩ := hI
    have hlen : ((ps.filter p).map f).length < sizeLine := by
      have := List.length_filter_le p ps
      simp at hl ⊢; omega
    refine hs d (by simp) (fun o r => match o with
      | some y => ((ps.filter p).map f).length < sizeLine ∧ X ((ps.filter p).map f ++ [y]) r
      | none => X ((ps.filter p).map f) r) ?_
    by_cases hp : p d = true
    · rw [if_pos hp]
      exact ⟨hlen, hX _ _ ⟨rfl, ps ++ [d], by simp, by simp [hp]⟩⟩
    · rw [if_neg hp]
      exact hX _ _ ⟨rfl, ps ++ [d], by simp, by simp [hp]⟩
end VS
/-! VSp: measures of data, lists and tuples exchanged. -/
namespace VS
open PySem PySem.Spec PyProof.Rows L2
mutual
/-- what can be shown and compared; (nd) no dicts -/
def D.sok (nd : Bool) : D → Bool
  | .obj _ _ _ => false
  | .dct _ _ => false
  | .dic => !nd
  | .lst xs => D.sokL nd xs
  | .tup xs => D.sokL nd xs
  | .int i => decide (i.natAbs.log2 < 1920)
  | .str x => x.cps.all (· < 0x110000)
  | .non | .bl _ => true
def D.sokL (nd : Bool) : List D → Bool
  | [] => true
  | d :: ds => d.sok nd && D.sokL nd ds
end
mutual
/-- how long it is at most, shown -/
def D.wt : D → Nat
  | .obj _ _ _ => 0
  | .dct _ _ => 0
  | .dic => 2
  | .lst xs => D.wtL xs + 3
  | .tup xs => D.wtL xs + 3
  | .int _ => 1922
  | .str x => 10 * x.length + 2
  | .non => 4
  | .bl _ => 5
def D.wtL : List D → Nat
  | [] => 0
  | d :: ds => d.wt + 2 + D.wtL ds
end
mutual
def D.dep : D → Nat
  | .lst xs => D.depL xs + 1
  | .tup xs => D.depL xs + 1
  | .obj _ _ _ => 0
  | .dct _ _ => 0
  | .dic => 1
  | .int _ => 0
  | .str _ => 0
  | .non => 0
  | .bl _ => 0
def D.depL : List D → Nat
  | [] => 0
  | d :: ds => max d.dep (D.depL ds)
end
mutual
/-- all tuples as lists -/
def D.norm : D → D
  | .lst xs => .lst (D.normL xs)
  | .tup xs => .lst (D.normL xs)
  | .obj C ns xs => .obj C ns xs
  | .dct ks xs => .dct ks xs
  | .dic => .dic
  | .int i => .int i
  | .str x => .str x
  | .non => .non
  | .bl b => .bl b
def D.normL : List D → List D
  | [] => []
  | d :: ds => d.norm :: D.normL ds
end
theorem sokL_iff {nd : Bool} : ∀ {xs : List D}, D.sokL nd xs = true ↔ ∀ d ∈ xs, d.sok nd = true
  | [] => by simp [D.sokL]
  | d :: ds => by simp [D.sokL, sokL_iff (xs := ds)]
theorem normL_map : ∀ {xs : List D}, D.normL xs = xs.map D.norm
  | [] => by simp [D.normL]
  | d :: ds => by simp [D.normL, normL_map (xs := ds)]
theorem depL_le {k : Nat} : ∀ {xs : List D}, D.depL xs ≤ k ↔ ∀ d ∈ xs, d.dep ≤ k
  | [] => by simp [D.depL]
  | d :: ds => by simp [D.depL, depL_le (xs := ds), Nat.max_le]
theorem wtL_le {k : Nat} : ∀ {xs : List D}, (∀ d ∈ xs, d.wt ≤ k) → D.wtL xs ≤ (k + 2) * xs.length
  | [], _ => by simp [D.wtL]
  | d :: ds, h => by
    have h1 := h d (by simp)
    have h2 := wtL_le (xs := ds) (k := k) fun x hx => h x (by simp [hx])
    simp only [D.wtL, List.length_cons, Nat.mul_add, Nat.mul_one]
    omega
mutual
theorem pl_of_sok {nd : Bool} : ∀ {d : D}, d.sok nd = true → d.pl nd = true
  | .non, _ => by simp [D.pl]
  | .bl _, _ => by simp [D.pl]
  | .int _, _ => by simp [D.pl]
  | .str _, _ => by simp [D.pl]
  | .lst xs, h => by simp only [D.sok] at h; simp only [D.pl]; exact plL_of_sok h
  | .tup xs, h => by simp only [D.sok] at h; simp only [D.pl]; exact plL_of_sok h
  | .dic, h => by simp only [D.sok] at h; simp only [D.pl]; exact h
  | .obj _ _ _, h => by simp [D.sok] at h
  | .dct _ _, h => by simp [D.sok] at h
theorem plL_of_sok {nd : Bool} : ∀ {xs : List D}, D.sokL nd xs = true → D.plL nd xs = true
  | [], _ => by simp [D.plL]
  | d :: ds, h => by
    simp only [D.sokL, Bool.and_eq_true] at h
    simp only [D.plL, Bool.and_eq_true]
    exact ⟨pl_of_sok h.1, plL_of_sok h.2⟩
end
mutual
theorem showable_of_sok {nd : Bool} : ∀ {d : D}, d.sok nd = true → d.py.showable = true
  | .non, _ => by simp [D.py, PyData.showable]
  | .bl _, _ => by simp [D.py, PyData.showable]
  | .int _, h => by simpa [D.py, PyData.showable, D.sok] using h
  | .str _, _ => by simp [D.py, PyData.showable]
  | .lst xs, h => by simp only [D.sok] at h; simp only [D.py, PyData.showable]; exact showableL_of_sok h
  | .tup xs, h => by simp only [D.sok] at h; simp only [D.py, PyData.showable]; exact showableL_of_sok h
  | .dic, h => by simp [D.py, PyData.showable, PyData.showableKv]
  | .obj _ _ _, h => by simp [D.sok] at h
  | .dct _ _, h => by simp [D.sok] at h
theorem showableL_of_sok {nd : Bool} : ∀ {xs : List D}, D.sokL nd xs = true → PyData.showableAll (D.pyL xs) = true
  | [], _ => by simp [D.pyL, PyData.showableAll]
  | d :: ds, h => by
    simp only [D.sokL, Bool.and_eq_true] at h
    simp only [D.pyL, PyData.showableAll, Bool.and_eq_true]
    exact ⟨showable_of_sok h.1, showableL_of_sok h.2⟩
end
mutual
theorem depth_py : ∀ {d : D}, d.py.depth ≤ d.dep
  | .non => by simp [D.py, PyData.depth]
  | .bl _ => by simp [D.py, PyData.depth]
  | .int _ => by simp [D.py, PyData.depth]
  | .str _ => by simp [D.py, PyData.depth]
  | .lst xs => by simp only [D.py, PyData.depth, D.dep]; exact Nat.succ_le_succ depthL_py
  | .tup xs => by simp only [D.py, PyData.depth, D.dep]; exact Nat.succ_le_succ depthL_py
  | .dic => by simp [D.py, PyData.depth, PyData.depthKv, D.dep]
  | .obj _ _ _ => by simp [D.py, PyData.depth]
  | .dct _ _ => by simp [D.py, PyData.depth]
theorem depthL_py : ∀ {xs : List D}, PyData.depthAll (D.pyL xs) ≤ D.depL xs
  | [] => by simp [D.pyL, PyData.depthAll]
  | d :: ds => by
    simp only [D.pyL, PyData.depthAll, D.depL]
    have h1 := depth_py (d := d)
    have h2 := depthL_py (xs := ds)
    omega
end
mutual
theorem shown_wt {nd : Bool} : ∀ {d : D}, d.sok nd = true → d.py.shown.length ≤ d.wt
  | .non, _ => by
    have : (PyData.shown .none).length = 4 := rfl
    simp only [D.py, D.wt]; omega
  | .bl b, _ => by
    have : (PyData.shown (.bool b)).length ≤ 5 := by cases b <;> decide
    simp only [D.py, D.wt]; omega
  | .int i, h => by
    have h' : i.natAbs.log2 < 1920 := by simpa [D.sok] using h
    have := int_text_len_1921 h'
    simp only [D.py, D.wt, PyData.shown]
    exact Nat.le_succ_of_le this
  | .str x, h => by
    have hx : ∀ c ∈ x.cps.toList, c < 16 ^ 8 := fun c hc => by
      simp only [D.sok] at h
      rw [Array.all_eq_true_iff_forall_mem] at h
      have := h c (Array.mem_toList_iff.mp hc)
      simp at this
      omega
    have e := StrLaws.reprText_len x hx
    simp only [D.py, PyData.shown, D.wt]
    exact e
  | .lst xs, h => by
    simp only [D.sok] at h
    have h1 := shownL_wt h
    have h2 := listText_len_le (PyData.shownAll (D.pyL xs))
    have h3 := PyData.shownAll_length (D.pyL xs)
    simp only [D.py, PyData.shown, D.wt]
    omega
  | .tup xs, h => by
    simp only [D.sok] at h
    have h1 := shownL_wt h
    have h2 := tupleText_len_le (PyData.shownAll (D.pyL xs))
    have h3 := PyData.shownAll_length (D.pyL xs)
    simp only [D.py, PyData.shown, D.wt]
    omega
  | .dic, _ => by
    have : (PyData.shown (.dict [])).length = 2 := rfl
    simp only [D.py, D.wt]; omega
  | .obj _ _ _, h => by simp [D.sok] at h
  | .dct _ _, h => by simp [D.sok] at h
theorem shownL_wt {nd : Bool} : ∀ {xs : List D}, D.sokL nd xs = true → ((PyData.shownAll (D.pyL xs)).map (·.length)).sum + 2 * (D.pyL xs).length ≤ D.wtL xs
  | [], _ => by simp [D.pyL, PyData.shownAll, D.wtL]
  | d :: ds, h => by
    simp only [D.sokL, Bool.and_eq_true] at h
    have h1 := shown_wt h.1
    have h2 := shownL_wt h.2
    simp only [D.pyL, PyData.shownAll, D.wtL, List.map_cons, List.sum_cons, List.length_cons]
    omega
end
mutual
theorem canLay_of_sok : ∀ {d : D}, d.sok true = true → d.py.canLay0 = true
  | .non, _ => by simp [D.py, PyData.canLay0]
  | .bl _, _ => by simp [D.py, PyData.canLay0]
  | .int _, h => by simp [D.py, PyData.canLay0]
  | .str _, h => by simpa [D.py, PyData.canLay0, D.sok, PyData.strOk] using h
  | .lst xs, h => by simp only [D.sok] at h; simp only [D.py, PyData.canLay0]; exact canLayL_of_sok h
  | .tup xs, h => by simp only [D.sok] at h; simp only [D.py, PyData.canLay0]; exact canLayL_of_sok h
  | .dic, h => by simp [D.sok] at h
  | .obj _ _ _, h => by simp [D.sok] at h
  | .dct _ _, h => by simp [D.sok] at h
theorem canLayL_of_sok : ∀ {xs : List D}, D.sokL true xs = true → PyData.canLayAll0 (D.pyL xs) = true
  | [], _ => by simp [D.pyL, PyData.canLayAll0]
  | d :: ds, h => by
    simp only [D.sokL, Bool.and_eq_true] at h
    simp only [D.pyL, PyData.canLayAll0, Bool.and_eq_true]
    exact ⟨canLay_of_sok h.1, canLayL_of_sok h.2⟩
end
theorem shOk_of {d : D} (h : d.sok false = true) (hw : d.wt ≤ 16777216) (hd : d.dep ≤ 60) : d.shOk :=
  ⟨pl_of_sok h, showable_of_sok h, Nat.le_trans (shown_wt h) hw, Nat.le_trans depth_py hd⟩
theorem eqOk_of {d : D} (h : d.sok true = true) (hd : d.dep ≤ 64) : d.eqOk :=
  ⟨pl_of_sok h, by simp only [SeqAt.shaped, canLay_of_sok h, Bool.true_and, decide_eq_true_eq]; exact Nat.le_trans depth_py hd⟩
@[simp] theorem eqOk_int {i : Int} : (D.int i).eqOk := ⟨by simp [D.pl], by simp [SeqAt.shaped, D.py, PyData.canLay0, PyData.depth]⟩
@[simp] theorem eqOk_bl {b : Bool} : (D.bl b).eqOk := ⟨by simp [D.pl], by simp [SeqAt.shaped, D.py, PyData.canLay0, PyData.depth]⟩
@[simp] theorem eqOk_non : (D.non).eqOk := ⟨by simp [D.pl], by simp [SeqAt.shaped, D.py, PyData.canLay0, PyData.depth]⟩
@[simp] theorem eqOk_nil : (D.lst []).eqOk := ⟨by simp [D.pl, D.plL], by simp [SeqAt.shaped, D.py, D.pyL, PyData.canLay0, PyData.canLayAll0, PyData.depth, PyData.depthAll]⟩
mutual
theorem sok_norm {nd : Bool} : ∀ {d : D}, d.norm.sok nd = d.sok nd
  | .non => by simp [D.norm]
  | .bl _ => by simp [D.norm]
  | .int _ => by simp [D.norm]
  | .str _ => by simp [D.norm]
  | .lst xs => by simp only [D.norm, D.sok]; exact sokL_norm
  | .tup xs => by simp only [D.norm, D.sok]; exact sokL_norm
  | .dic => by simp [D.norm]
  | .obj _ _ _ => by simp [D.norm]
  | .dct _ _ => by simp [D.norm]
theorem sokL_norm {nd : Bool} : ∀ {xs : List D}, D.sokL nd (D.normL xs) = D.sokL nd xs
  | [] => by simp [D.normL]
  | d :: ds => by simp only [D.normL, D.sokL, sok_norm (d := d), sokL_norm (xs := ds)]
end
mutual
theorem wt_norm : ∀ {d : D}, d.norm.wt = d.wt
  | .non => by simp [D.norm]
  | .bl _ => by simp [D.norm]
  | .int _ => by simp [D.norm]
  | .str _ => by simp [D.norm]
  | .lst xs => by simp only [D.norm, D.wt, wtL_norm (xs := xs)]
  | .tup xs => by simp only [D.norm, D.wt, wtL_norm (xs := xs)]
  | .dic => by simp [D.norm]
  | .obj _ _ _ => by simp [D.norm]
  | .dct _ _ => by simp [D.norm]
theorem wtL_norm : ∀ {xs : List D}, D.wtL (D.normL xs) = D.wtL xs
  | [] => by simp [D.normL]
  | d :: ds => by simp only [D.normL, D.wtL, wt_norm (d := d), wtL_norm (xs := ds)]
end
mutual
theorem dep_norm : ∀ {d : D}, d.norm.dep = d.dep
  | .non => by simp [D.norm]
  | .bl _ => by simp [D.norm]
  | .int _ => by simp [D.norm]
  | .str _ => by simp [D.norm]
  | .lst xs => by simp only [D.norm, D.dep, depL_norm (xs := xs)]
  | .tup xs => by simp only [D.norm, D.dep, depL_norm (xs := xs)]
  | .dic => by simp [D.norm]
  | .obj _ _ _ => by simp [D.norm]
  | .dct _ _ => by simp [D.norm]
theorem depL_norm : ∀ {xs : List D}, D.depL (D.normL xs) = D.depL xs
  | [] => by simp [D.normL]
  | d :: ds => by simp only [D.normL, D.depL, dep_norm (d := d), depL_norm (xs := ds)]
end
/-- the items of a list or a tuple -/
def D.items : D → Option (List D)
  | .lst xs => some xs
  | .tup xs => some xs
  | _ => none
theorem norm_lst {v : D} {ys : List D} (h : v.norm = .lst ys) : ∃ xs, v.items = some xs ∧ xs.map D.norm = ys := by
  cases v with
  | lst xs => simp only [D.norm, D.lst.injEq] at h; exact ⟨xs, rfl, by rw [← normL_map]; exact h⟩
  | tup xs => simp only [D.norm, D.lst.injEq] at h; exact ⟨xs, rfl, by rw [← normL_map]; exact h⟩
  | _ => simp [D.norm] at h
theorem norm_int {v : D} {i : Int} (h : v.norm = .int i) : v = .int i := by cases v <;> simp_all [D.norm]
theorem norm_str {v : D} {x : Str} (h : v.norm = .str x) : v = .str x := by cases v <;> simp_all [D.norm]
/-! numbers -/
theorem log2_lt {i : Int} {n : Nat} (hn : 0 < n) (h : i.natAbs < 2 ^ n) : i.natAbs.log2 < n := by
  by_cases hz : i.natAbs = 0
  · rw [hz]; simpa using hn
  · exact (Nat.log2_lt hz).mpr h
theorem cdivW_of {i j : Int} (h0 : 0 < j) (h : j.natAbs < 2 ^ 9000) : CDivW i j := ⟨h0, log2_lt (by decide) h⟩
theorem cmulA_r {i j : Int} (h1 : -(2 ^ 64) < j) (h2 : j < 2 ^ 64) : CMulA i j := .inl (.inr ⟨h1, h2⟩)
theorem cmulA_l {i j : Int} (h1 : -(2 ^ 64) < i) (h2 : i < 2 ^ 64) : CMulA i j := .inl (.inl ⟨h1, h2⟩)
theorem bits_of {i : Int} {n : Nat} (hn : 0 < n) (h : i.natAbs < 2 ^ n) : Builtin.Int.intBits i ≤ n := by
  have := log2_lt hn h
  unfold Builtin.Int.intBits
  split <;> omega
theorem cmulA_x {i j : Int} (h1 : i.natAbs < 2 ^ 9000) (h2 : j.natAbs < 2 ^ 9000) : CMulA i j := by
  refine .inr ?_
  have e1 := bits_of (by decide) h1
  have e2 := bits_of (by decide) h2
  unfold CMulX
  omega
@[simp] theorem size16 : sizeLine = 16777216 := keep rfl
@[simp] theorem cpowT {i j : Int} : CPow i j = (0 ≤ j ∧ j ≤ 1000000 ∧ i.natAbs < 2 ^ 64) := keep rfl
@[simp] theorem cmulT1 {i j : Int} (h : -(2 ^ 64) < j ∧ j < 2 ^ 64) : CMulA i j = True := eq_true (cmulA_r h.1 h.2)
@[simp] theorem cmulT2 {i j : Int} (h : -(2 ^ 64) < i ∧ i < 2 ^ 64) : CMulA i j = True := eq_true (cmulA_l h.1 h.2)
@[simp] theorem cmulT3 {i j : Int} (h : i.natAbs < 2 ^ 1000 ∧ j.natAbs < 2 ^ 1000) : CMulA i j = True :=
  eq_true (cmulA_x (Nat.lt_of_lt_of_le h.1 (Nat.pow_le_pow_right (by decide) (by decide))) (Nat.lt_of_lt_of_le h.2 (Nat.pow_le_pow_right (by decide) (by decide))))
@[simp] theorem cdivT {i j : Int} (h : 0 < j ∧ j < 2 ^ 64) : CDivW i j = True := eq_true (cdivW_of h.1 (by omega))
end VS
/-! VSq: a text times a number, texts joined. -/
namespace VS
open PySem PySem.Spec PyProof.Rows L2
section
variable {X : Cx} {W : WX} {K : PySem.W.Frag}
/-- a text n times -/
def repS (x : Str) (n : Int) : Str := ⟨(List.replicate n.toNat x.cps.toList).flatten.toArray⟩
theorem foldl_app (y : Array Nat) : ∀ (k : Nat) (acc : Array Nat), (List.replicate k y).foldl (· ++ ·) acc = acc ++ ((List.replicate k y.toList).flatten).toArray
  | 0, acc => by simp
  | k + 1, acc => by
    rw [List.replicate_succ, List.foldl_cons, foldl_app y k (acc ++ y), List.replicate_succ, List.flatten_cons]
    apply Array.ext'
    simp
def rRepS : R2 := fun x y H Q => ∃ s k, x = .str s ∧ y = .int k ∧ -(2 ^ 63) ≤ k ∧ k < 2 ^ 63 ∧ s.length * k.toNat ≤ sizeLine ∧ Q (.str (repS s k)) H
theorem op_mul_str : OpR X (binaryOp .Mult) rRepS := by
  intro pins s σ H x y v u Q I rx ry h
  obtain ⟨z, k, rfl, rfl, h1, h2, hz, q⟩ := h
  obtain ⟨t, rfl⟩ := rx
  obtain ⟨t', rfl⟩ := ry
  have hrep : repS z k = ⟨(List.replicate k.toNat z.cps).foldl (· ++ ·) #[]⟩ := by
    unfold repS
    rw [foldl_app]
    simp
  have hlen : (repS z k).length = z.length * k.toNat := by
    simp [repS, Str.length, Nat.mul_comm]
  refine PySem.P.mul_str (by rw [decide_eq_false (by omega), decide_eq_false (by omega)]; rfl) (fun a b => ?_) (fun a b => decide_eq_false (by omega)) ?_
  · have hk : 0 < k := by omega
    rw [gt_iff_lt, Int.not_lt, Int.le_ediv_iff_mul_le hk]
    have e : (z.length : Int) * k = ((z.length * k.toNat : Nat) : Int) := by rw [Int.natCast_mul, Int.toNat_of_nonneg (by omega)]
    rw [e]
    have : (sizeLine : Nat) = 16777216 := rfl
    omega
  · by_cases a : k < 1
    · rw [if_pos a]
      have e : repS z k = Str.empty := by
        have : k.toNat = 0 := by omega
        simp [repS, this, Str.empty]
      exact ⟨by decide, ⟨.str _, H, I.tok _, ⟨_, rfl⟩, by rw [← e]; exact q⟩⟩
    · rw [if_neg a]
      by_cases b : (k == 1 || z.length == 0) = true
      · rw [if_pos b]
        have e : repS z k = z := by
          rw [Bool.or_eq_true, beq_iff_eq, beq_iff_eq] at b
          rcases b with b | b
          · subst b; simp [repS]
          · obtain ⟨⟨l⟩⟩ := z
            have : l = [] := by cases l <;> first | rfl | cases b
            subst this
            simp [repS]
        exact ⟨.str z, H, I, ⟨t, rfl⟩, by rw [← e]; exact q⟩
      · rw [if_neg b, ← hrep]
        exact ⟨by rw [hlen]; exact hz, ⟨.str _, H, I.tok _, ⟨_, rfl⟩, q⟩⟩
/-- a * b: numbers; a text times a number -/
def bMulB : D → D → (D → Prop) → Prop
  | .int i, .int j, Q => CMulA i j ∧ Q (.int (i * j))
  | .str x, .int k, Q => -(2 ^ 63) ≤ k ∧ k < 2 ^ 63 ∧ x.length * k.toNat ≤ sizeLine ∧ Q (.str (repS x k))
  | _, _, _ => False
def rMulB : R2 := fun x y H Q => rI CMulA (fun i j => .int (i * j)) x y H Q ∨ rRepS x y H Q
theorem op_mulB : OpR X (binaryOp .Mult) rMulB := OpR.or op_mulA op_mul_str
theorem b2_mulB : B2 K rMulB bMulB := fun J H d e v u Q Q' s rv ru h hq => by
  cases d <;> cases e <;> first
    | exact h.elim
    | exact .inl ⟨_, _, rp_int.mp rv, rp_int.mp ru, h.1, hq J H _ _ (Grow.refl s) (rp_i _) h.2⟩
    | exact .inr ⟨_, _, rp_str.mp rv, rp_int.mp ru, h.1, h.2.1, h.2.2.1, hq J H _ _ (Grow.refl s) (rp_s _) h.2.2.2⟩
/-- the texts of a list -/
def strsOf : List D → Option (List Str)
  | [] => some []
  | .str i :: r => (strsOf r).map (i :: ·)
  | _ => none
/-- sep.join(x) -/
def kJoin2 (Q : KD) (x : D) : KD := fun y ρ2 => match x, y with
  | .str a, .lst ds => ∃ ys, strsOf ds = some ys ∧ (ys.map (·.length)).sum + ys.length * a.length ≤ 16777216 ∧ Q (.str (Txt.join a ys)) ρ2
  | .str a, .tup ds => ∃ ys, strsOf ds = some ys ∧ (ys.map (·.length)).sum + ys.length * a.length ≤ 16777216 ∧ Q (.str (Txt.join a ys)) ρ2
  | _, _ => False
def kJoin1 (Q : KD) (Z : KX) (tb : AE) : KD := fun x ρ1 => (∃ a, x = .str a) ∧ tb ρ1 (kJoin2 Q x) Z
def aJoin (ta tb : AE) : AE := fun ρ Q Z => ta ρ (kJoin1 Q Z tb) Z
end
section
variable {ρ ρ1 : List Sv} {Q : KD} {QV : D → Prop} {Z : KX} {ta tb : AE} {x y : Str} {ds : List D} {i j : Int}
@[simp ↓] theorem q_bMulB1 : bMulB (.int i) (.int j) QV = (CMulA i j ∧ QV (.int (i * j))) := keep rfl
@[simp ↓] theorem q_bMulB2 : bMulB (.str x) (.int j) QV = (-(2 ^ 63) ≤ j ∧ j < 2 ^ 63 ∧ x.length * j.toNat ≤ sizeLine ∧ QV (.str (repS x j))) := keep rfl
@[simp ↓] theorem q_aJoin : aJoin ta tb ρ Q Z = ta ρ (kJoin1 Q Z tb) Z := keep rfl
@[simp ↓] theorem q_kJoin1 : kJoin1 Q Z tb (.str x) ρ1 = tb ρ1 (kJoin2 Q (.str x)) Z := by
  unfold kJoin1
  exact propext ⟨fun h => h.2, fun h => ⟨⟨x, rfl⟩, h⟩⟩
@[simp ↓] theorem q_kJoin2l : kJoin2 Q (.str x) (.lst ds) ρ1 = (∃ ys, strsOf ds = some ys ∧ (ys.map (·.length)).sum + ys.length * x.length ≤ 16777216 ∧ Q (.str (Txt.join x ys)) ρ1) := keep rfl
@[simp ↓] theorem q_kJoin2t : kJoin2 Q (.str x) (.tup ds) ρ1 = (∃ ys, strsOf ds = some ys ∧ (ys.map (·.length)).sum + ys.length * x.length ≤ 16777216 ∧ Q (.str (Txt.join x ys)) ρ1) := keep rfl
end
end VS
/-! VSr: list(a text). -/
namespace VS
open PySem PySem.Spec PyProof.Rows L2
theorem vals_of : ∀ (vs : List V) (us : List Value), vs.length = us.length → (∀ (j : Nat) v u, vs[j]? = some v → us[j]? = some u → RelV v u) → Vals vs us
  | [], [], _, _ => .nil
  | [], _ :: _, h, _ => by cases h
  | _ :: _, [], h, _ => by cases h
  | v :: vs, u :: us, h, hr => .cons (hr 0 v u rfl rfl) (vals_of vs us (by simpa using h) fun j a b e1 e2 => hr (j + 1) a b e1 e2)
section
variable {X : Cx} {W : WX} {K : PySem.W.Frag} {a : Expr} {p pos : Pos}
def signsV (x : Str) : List V := x.cps.toList.map fun c => V.str ⟨#[c]⟩
theorem call_list_strV (hc : X.calm = true) : CallR X (.type "list") (fun xs H Q => ∃ x, xs = [.str x] ∧ x.length ≤ sizeLine ∧ ∀ l, H l = none → Q (.ref l) (upd H l (.lst (signsV x)))) := by
  intro pins s σ H xs us Q I r ⟨x, e, hz, q⟩
  subst e
  obtain ⟨u, rfl, rx⟩ := Vals.one r
  obtain ⟨t, rfl⟩ := rx
  refine PySem.call_list_str (I.ok.hd hc) x t (fun h' tk acc c' hk hD hacc => ?_) hz
  have hv : Vals (signsV x) acc.toList := by
    refine vals_of _ _ (by simp [signsV, hacc.1]) fun j v u e1 e2 => ?_
    obtain ⟨c, w, h1, rfl⟩ := hacc.2 j u (by simpa using e2)
    simp [signsV, h1] at e1
    subst e1
    exact ⟨_, rfl⟩
  exact ⟨.ref s.heap.objs.size, upd H s.heap.objs.size (.lst (signsV x)), I.laid (t' := tk) hk (Nat.le_refl _)
    (show ObjOk X.prog X.w _ _ _ (.lst (signsV x)) from ⟨by rw [signsV, List.length_map, Array.length_toList]; exact hz, acc.toList, c', hv, by rw [Array.toArray_toList]; exact hD⟩), rfl, q _ (I.hok.fresh (Nat.le_refl _))⟩
theorem rpl_signs {G : Hp} (x : Str) : RpL K G (signsD x) (signsV x) := by
  unfold signsD signsV
  generalize x.cps.toList = l
  induction l with
  | nil => exact RpL.nil
  | cons c l ih => exact RpL.cons (rp_s _) ih
/-- list(x), x a list, a tuple or a text -/
def kListA (QL : List D → List Sv → Prop) : List D → List Sv → Prop := fun ds ρ1 => match ds with
  | [.lst xs] => QL xs ρ1
  | [.tup xs] => QL xs ρ1
  | [.str x] => x.length ≤ sizeLine ∧ QL (signsD x) ρ1
  | _ => False
def oListA (t : AA) : AO := fun ρ Q Z => t ρ (kListA Q) Z
theorem CallR.or' {f : Value} {r r' : List V → Hp → VK → Prop} (h : CallR X f r) (h' : CallR X f r') : CallR X f (fun xs H Q => r xs H Q ∨ r' xs H Q) := by
  intro pins s σ H xs us Q I rs q
  rcases q with q | q
  · exact h pins s σ H xs us Q I rs q
  · exact h' pins s σ H xs us Q I rs q
theorem o_listA {u' : AA} (hc : X.calm = true) (hg : Gl X "list") (hm : X.mg "list" = none) (ha : EXs X W [a] u') (he : starEach [a] X.env = (false, eval a X.env) :: starEach [] X.env := by rfl) (hpl : (backTo pos (starEach [] X.env)).any (·.1) = false := by rfl) : EO X W (.Call (.Name "list" p) [a] [] pos) (oListA u') := by
  obtain ⟨T, pa, r⟩ := ha.ex
  refine ⟨_, pe_callTy (CallR.or' call_list_of (call_list_strV hc)) hg hm (by decide +kernel) pa (by decide) (by decide) he hpl, fun P G F ρ σ H Q Z Q' R h hz hq => ?_⟩
  refine r P G F ρ σ H _ Z _ R h hz fun G1 ρ1 H1 vs ds R1 s1 rs q => ?_
  unfold kListA at q
  split at q
  · obtain ⟨v, rfl, rv⟩ := rpl1 rs
    obtain ⟨l, us, rfl, g2, g3⟩ := rp_lst.mp rv
    exact .inl ⟨l, us, rfl, .inl (R1.sg.seq g2), fun p hp => hq G1 ρ1 _ p _ _ (R1.alloc hp) s1 upd_same (R1.sg.free hp) (R1.sf.free hp) (not_own R1 hp) g3 q⟩
  · obtain ⟨v, rfl, rv⟩ := rpl1 rs
    obtain ⟨l, us, rfl, g2, g3⟩ := rp_tup.mp rv
    exact .inl ⟨l, us, rfl, .inr (Same.seqT R1.sg g2), fun p hp => hq G1 ρ1 _ p _ _ (R1.alloc hp) s1 upd_same (R1.sg.free hp) (R1.sf.free hp) (not_own R1 hp) g3 q⟩
  · obtain ⟨v, rfl, rv⟩ := rpl1 rs
    have e := rp_str.mp rv
    subst e
    exact .inr ⟨_, rfl, q.1, fun p hp => hq G1 ρ1 _ p _ _ (R1.alloc hp) s1 upd_same (R1.sg.free hp) (R1.sf.free hp) (not_own R1 hp) (rpl_signs _) q.2⟩
  · exact q.elim
end
section
variable {ρ ρ1 : List Sv} {Z : KX} {QL : List D → List Sv → Prop} {aa : AA} {xs : List D} {s : Str}
@[simp ↓] theorem q_oListA : oListA aa ρ QL Z = aa ρ (kListA QL) Z := keep rfl
@[simp ↓] theorem q_kListAl : kListA QL [.lst xs] ρ1 = QL xs ρ1 := keep rfl
@[simp ↓] theorem q_kListAt : kListA QL [.tup xs] ρ1 = QL xs ρ1 := keep rfl
@[simp ↓] theorem q_kListAs : kListA QL [.str s] ρ1 = (s.length ≤ sizeLine ∧ QL (signsD s) ρ1) := keep rfl
end
end VS
/-! VSs: a, b = (an own list), y. -/
namespace VS
open PySem PySem.Spec PyProof.Rows L2
section
variable {K : PySem.W.Frag} {P : List (Nat × Addr)} {G F F' : Hp} {ρ : List Sv} {σ : St} {H : Hp}
/-- a list of nobody's joins the frame -/
theorem Rel.frameA (R : Rel K P G F ρ σ H) {a : Addr} {vs : List V} (h2 : H a = some (.lst vs)) (h3 : G a = none)
    (hn : NoS ρ σ a) : Rel K P G (upd F a (.lst vs)) ρ σ H where
  len := R.len
  sg := R.sg
  sf := fun b o q => by
    by_cases hb : b = a
    · rw [hb, upd_same] at q; rw [hb, h2]; exact q
    · rw [upd_ne hb] at q; exact R.sf _ _ q
  gf := fun b o q => by
    by_cases hb : b = a
    · rw [hb]; exact h3
    · rw [upd_ne hb] at q; exact R.gf b o q
  dat := R.dat
  own := fun i b xs e => by
    obtain ⟨c, us, g1, g2, g3, g4, g5⟩ := R.own i b xs e
    refine ⟨c, us, g1, g2, g3, ?_, g5⟩
    rw [upd_ne fun z => hn.own i b xs e (by rw [← z]; exact g1)]
    exact g4
  ne := R.ne
  pin := R.pin
  pinc := R.pinc
  tr := R.tr.same (Same.refl _) fun i t b e hb => by
    obtain ⟨_, g2, g3⟩ := R.tr.ex e hb
    exact ⟨rfl, g2, by rw [upd_ne fun z => hn.tre i t e (by rw [← z]; exact hb)]; exact g3⟩
/-- what stands in the frame is no slot's list -/
theorem NoS.ofF (R : Rel K P G F ρ σ H) {a : Addr} {o : HO} (h : F a = some o) : NoS ρ σ a where
  own := fun i b ys e z => by
    obtain ⟨c, us, g1, _, _, g4, _⟩ := R.own i b ys e
    rw [z] at g1
    cases g1
    rw [h] at g4
    cases g4
  tre := fun i t e hb => by
    obtain ⟨_, _, g3⟩ := R.tr.ex e hb
    rw [h] at g3
    cases g3
theorem Rel.unframe (R : Rel K P G F' ρ σ H) (s : Same F F') : Rel K P G F ρ σ H where
  len := R.len
  sg := R.sg
  sf := s.trans R.sf
  gf := fun b o q => R.gf b o (s _ _ q)
  dat := R.dat
  own := fun i b xs e => by
    obtain ⟨c, us, g1, g2, g3, g4, g5⟩ := R.own i b xs e
    exact ⟨c, us, g1, g2, g3, s.free g4, g5⟩
  ne := R.ne
  pin := R.pin
  pinc := R.pinc
  tr := R.tr.same (Same.refl _) fun i t b e hb => by
    obtain ⟨_, g2, g3⟩ := R.tr.ex e hb
    exact ⟨rfl, g2, s.free g3⟩
end
section
variable {X : Cx} {W : WX} {a b : Expr} {oa : AO} {tb : AE} {pos : Pos}
def kParO2 (E : AEnds) (i j : Nat) (xs : List D) : KD := fun y ρ2 => okSet ρ2 i ∧ okSet (ρ2.set i (.own false xs)) j ∧ E.nx ((ρ2.set i (.own false xs)).set j (.dat y))
def kParO1 (tb : AE) (E : AEnds) (i j : Nat) : List D → List Sv → Prop := fun xs ρ1 => tb ρ1 (kParO2 E i j xs) E.xx
def sParO (i j : Nat) (oa : AO) (tb : AE) : AS := fun E ρ => oa ρ (kParO1 tb E i j) E.xx
theorem s_parO {i j : Nat} {x y : Str} {px py pt : Pos} {kt k2 : Nat} {pt2 : Pos} (hc : X.calm = true) (hN : X.N.Nodup) (ea : EO X W a oa) (eb : EX X W b tb) (hij : i ≠ j := by decide) (hi : X.N[i]? = some x := by rfl) (hj : X.N[j]? = some y := by rfl)
    (hx : X.env.scope.names.lookup x = some .local := by rfl) (hy : X.env.scope.names.lookup y = some .local := by rfl)
    (hw : swappedStores [.Tuple [.Name x px, .Name y py] kt pt] (.Tuple [a, b] k2 pt2) X.env = pure (some [x, y]) := by rfl) (hs : swapsWithSole [.Tuple [.Name x px, .Name y py] kt pt] (.Tuple [a, b] k2 pt2) pos.line X.env = pure false := by rfl)
    (h1 : starEach [a, b] X.env = (false, eval a X.env) :: starEach [b] X.env := by rfl) (h2 : starEach [b] X.env = (false, eval b X.env) :: starEach [] X.env := by rfl) :
    SX X W (.Assign [.Tuple [.Name x px, .Name y py] kt pt] (.Tuple [a, b] k2 pt2) pos) (sParO i j oa tb) := by
  obtain ⟨Ta, pa, ra⟩ := ea.ex
  obtain ⟨Tb, pb, rb⟩ := eb.ex
  refine ⟨_, ps_par hc hN hi hj hij hx hy (pa_cons pa (pa_cons pb pa_nil h2) h1) hw hs, fun P G F ρ σ H D D' R h hd => ?_⟩
  refine ra P G F ρ σ H _ D.xx _ R h (hd.xx σ) fun G1 ρ1 H1 l vs xs R1 s1 k2 k3 k4 hn hr h1 => ?_
  have sF : Same F (upd F l (.lst vs)) := same_new k4
  have hx' : XIn X W P G1 (upd F l (.lst vs)) σ D.xx := fun G' ρ' H' x cls d R s E z => ((hd.xx σ).mono s1) G' ρ' H' x cls d (R.unframe sF) s E z
  refine rb P G1 _ ρ1 σ H1 _ D.xx _ (R1.frameA k2 k3 hn) h1 hx' fun G2 ρ2 H2 u e R2 s2 ru ⟨o1, o2, q⟩ => ?_
  have m2 : H2 l = some (.lst vs) := R2.sf _ _ upd_same
  have m3 : G2 l = none := R2.gf l _ upd_same
  have hn2 : NoS ρ2 σ l := NoS.ofF R2 upd_same
  exact ⟨.ref l, u, rfl, hd.nx G2 _ _ H2 (((R2.unframe sF).setO o1 m2 m3 k4 hn2 (hr.mono s2)).setD o2 ru) (s1.trans s2) q⟩
end
section
variable {ρ ρ1 : List Sv} {oa : AO} {tb : AE} {E : AEnds} {i j : Nat} {xs : List D} {y : D}
@[simp ↓] theorem q_sParO : sParO i j oa tb E ρ = oa ρ (kParO1 tb E i j) E.xx := keep rfl
@[simp ↓] theorem q_kParO1 : kParO1 tb E i j xs ρ1 = tb ρ1 (kParO2 E i j xs) E.xx := keep rfl
@[simp ↓] theorem q_kParO2 : kParO2 E i j xs y ρ1 = (okSet ρ1 i ∧ okSet (ρ1.set i (.own false xs)) j ∧ E.nx ((ρ1.set i (.own false xs)).set j (.dat y))) := keep rfl
/-- x op= e -/
@[simp ↓] theorem q_bAddII {i j : Int} {Q : D → Prop} : bAddI (.int i) (.int j) Q = Q (.int (i + j)) := by simp [bAddI]
@[simp ↓] theorem q_bMulSI {i j : Int} {Q : D → Prop} : bMulS (.int i) (.int j) Q = (CMul i j ∧ Q (.int (i * j))) := keep rfl
end
end VS
/-! VSt: objects: their fields. -/
namespace VS
open PySem PySem.Spec PyProof.Rows L2
section
variable {K : PySem.W.Frag} {G : Hp}
theorem RpL.look {f : Str} : ∀ {ns : List Str} {xs : List D} {vs : List V} {x : D}, RpL K G xs vs → (ns.zip xs).lookup f = some x → ∃ v, (ns.zip vs).lookup f = some v ∧ Rp K G x v
  | [], _, _, _, _, e => by simp at e
  | _ :: _, [], _, _, _, e => by simp at e
  | n :: ns, d :: xs, _, x, h, e => by
    obtain ⟨v, r, rfl, h2, h3⟩ := rpl_cons.mp h
    rw [List.zip_cons_cons, List.lookup_cons] at e ⊢
    by_cases hn : (f == n) = true
    · rw [hn] at e ⊢
      cases e
      exact ⟨v, rfl, h2⟩
    · rw [Bool.not_eq_true] at hn
      rw [hn] at e ⊢
      exact RpL.look h3 e
/-- objects of the module's class c keep f by themselves -/
def FldOk (K : PySem.W.Frag) (c f : Str) : Prop := ∀ C, PySem.W.nsIn K mainGlobals c = some (some (.ref C)) → Cls K C ∧ NoAttr K C f
end
section
variable {X : Cx} {W : WX} {e : Expr} {ta : AE} {va : AV} {c f : Str} {pos : Pos}
def kFld (Q : KD) (c f : Str) : KD := fun d ρ1 => match d with
  | .obj c' ns xs => c' = c ∧ isX ns = false ∧ ∃ x, (ns.zip xs).lookup f = some x ∧ Q x ρ1
  | _ => False
def kvFld (Q : D → Prop) (c f : Str) : D → Prop := fun d => match d with
  | .obj c' ns xs => c' = c ∧ isX ns = false ∧ ∃ x, (ns.zip xs).lookup f = some x ∧ Q x
  | _ => False
def aFld (c f : Str) (ta : AE) : AE := fun ρ Q Z => ta ρ (kFld Q c f) Z
def vFld (c f : Str) (va : AV) : AV := fun ρ Q => va ρ (kvFld Q c f)
theorem e_fld (ok : FldOk X.K c f) (he : EX X W e ta) (hb : attributeBase e f X.env (eval e X.env) = eval e X.env := by rfl) : EX X W (.Attribute e f pos) (aFld c f ta) := by
  obtain ⟨T, p, r⟩ := he.ex
  refine ⟨_, pe_fld p hb, fun P G F ρ σ H Q Z Q' R h hz hq => ?_⟩
  refine r P G F ρ σ H _ Z _ R h hz fun G1 ρ1 H1 v d R1 s1 rv q => ?_
  cases d with
  | obj c' ns xs =>
    obtain ⟨rfl, hx, x, h1, q⟩ := q
    obtain ⟨C, a, dx, vs, g0, rfl, g2, g3, g4, g5⟩ := (rp_obj hx).mp rv
    obtain ⟨k1, k2⟩ := ok C g0
    obtain ⟨w, l, rw'⟩ := RpL.look g5 h1
    exact ⟨a, C, dx, _, w, rfl, R1.sg _ _ g2, k1, k2, l, hq G1 ρ1 H1 w x R1 s1 rw' q⟩
  | _ => exact q.elim
end
section
variable {ρ ρ1 : List Sv} {Q : KD} {QV : D → Prop} {Z : KX} {ta : AE} {va : AV} {c f : Str} {ns : List Str} {xs : List D}
@[simp ↓] theorem q_aFld : aFld c f ta ρ Q Z = ta ρ (kFld Q c f) Z := keep rfl
@[simp ↓] theorem q_kFld {c' : Str} : kFld Q c f (.obj c' ns xs) ρ1 = (c' = c ∧ isX ns = false ∧ ∃ x, (ns.zip xs).lookup f = some x ∧ Q x ρ1) := keep rfl
@[simp ↓] theorem q_vFld : vFld c f va ρ QV = va ρ (kvFld QV c f) := keep rfl
@[simp ↓] theorem q_kvFld {c' : Str} : kvFld QV c f (.obj c' ns xs) = (c' = c ∧ isX ns = false ∧ ∃ x, (ns.zip xs).lookup f = some x ∧ QV x) := keep rfl
end
end VS
/-! VSu: objects: made. -/
namespace VS
open PySem PySem.Spec PyProof.Rows L2
/-- an __init__ that keeps its arguments in the fields ns -/
def spI (C : Addr) (ns : List Str) : Sp := fun vs H Q _ => ∃ x dx args, vs = V.ref x :: args ∧ args.length = ns.length ∧ H x = some (.ins C dx []) ∧ Q .non (upd H x (.ins C dx (ns.zip args)))
structure MkC (P : Program) (w : World) (K : PySem.W.Frag) (mg : Str → Option Value) (base : Heap) (k : Nat) (x : Str) (ns : List Str) : Prop where
  ex : ∃ (C f : Addr) (fd : FuncData) (ps : List Str), Mk K C f ∧ FnOk P w K mg base (L2N.CX P w) k f fd ps (spI C ns) ∧ mg x = some (.ref C) ∧ PySem.W.nsIn K mainGlobals x = some (some (.ref C)) ∧ Binds K fd ps []
theorem upd_upd {H : Hp} {a : Addr} {o o' : HO} : upd (upd H a o) a o' = upd H a o' := by
  funext b
  by_cases hb : b = a
  · rw [hb, upd_same, upd_same]
  · rw [upd_ne hb, upd_ne hb, upd_ne hb]
section
variable {X : Cx} {W : WX} {e : Expr} {es : List Expr} {u' : AA} {x : Str} {ns : List Str} {p pos : Pos}
def kMake (Q : KD) (c : Str) (ns : List Str) : List D → List Sv → Prop := fun ds ρ1 => ds.length = ns.length ∧ isX ns = false ∧ Q (.obj c ns ds) ρ1
def aMake (c : Str) (ns : List Str) (t : AA) : AE := fun ρ Q Z => t ρ (kMake Q c ns) Z
theorem e_make {k : Nat} (M : MkC X.prog X.w X.K X.mg X.base k x ns) (rn : Run (k + 1) X) (tk : L2N.Takes X W) (hg : Gl X x) (ha : EXs X W (e :: es) u') (hdb : (x == ("__debug__" : Str)) = false := by decide)
    (he : starEach (e :: es) X.env = (false, eval e X.env) :: starEach es X.env := by rfl) (hpl : (backTo pos (starEach es X.env)).any (·.1) = false := by rfl) : EX X W (.Call (.Name x p) (e :: es) [] pos) (aMake x ns u') := by
  obtain ⟨C, f, fd, ps, mk, F, hm, hn, hb⟩ := M.ex
  obtain ⟨T, pa, r⟩ := ha.ex
  refine ⟨_, pe_make (E := fun _ _ _ => False) mk F rn.hr hg hm hb .nil (L2N.passes_call tk fun _ _ _ _ h => h.elim) pa hdb he hpl, fun P G F ρ σ H Q Z Q' R h hz hq => ?_⟩
  refine r P G F ρ σ H _ Z _ R h hz fun G1 ρ1 H1 vs ds R1 s1 rs ⟨hl, hix, q⟩ a dx hx hdx hne => ?_
  refine ⟨a, dx, vs, by rw [List.append_nil], by rw [← rs.length]; exact hl, upd_same, rfl, ?_⟩
  rw [upd_upd]
  have g1 := Grow.new (o := .own a) R1.sg hdx
  have hx' : (upd H1 dx (.own a)) a = none := by rw [upd_ne (Ne.symm hne)]; exact hx
  have g2 := Grow.new (o := .ins C dx (ns.zip vs)) g1.jh hx'
  have g := g1.trans g2
  refine hq _ ρ1 _ _ (.obj x ns ds) (R1.grow g) (s1.trans g.j) ((rp_obj hix).mpr ⟨C, a, dx, vs, hn, rfl, upd_same, ?_, hl.symm, rs.mono g.j⟩) q
  rw [upd_ne hne]
  exact upd_same
end
section
variable {ρ ρ1 : List Sv} {Q : KD} {Z : KX} {aa : AA} {c : Str} {ns : List Str} {ds : List D}
@[simp ↓] theorem q_aMake : aMake c ns aa ρ Q Z = aa ρ (kMake Q c ns) Z := keep rfl
@[simp ↓] theorem q_kMake : kMake Q c ns ds ρ1 = (ds.length = ns.length ∧ isX ns = false ∧ Q (.obj c ns ds) ρ1) := keep rfl
end
end VS
/-! VSv: methods without arguments; what an __init__ that keeps its arguments does; tuple + tuple. -/
namespace VS
open PySem PySem.Spec PyProof.Rows L2
section
variable {X : Cx} {W : WX} {o : Expr} {ta : TE} {k : Nat} {C f : Addr} {fd : FuncData} {m : Str} {ps : List Str} {sp : Sp} {apos pos : Pos}
theorem pe_mg0 {pl : Sem Bool} (he : PE X o ta) (c : Cls X.K C) (hm : Meth X.K C m f) (F : FnG X.prog X.w X.K X.mg X.base k f fd ps sp) (rn : Run k X) (hb : Binds X.K fd ps []) (tk : L2N.Takes X W)
    (ht : eval (.Call (.Attribute o m apos) [] [] pos) X.env = (do
      let ov ← eval o X.env
      standAt apos.atName
      let (f, first) ← holding [ov] (getMethod ov m pl)
      callWith pos f first (backTo pos (starEach [] X.env)) (backToKw pos (keywordEach [] X.env))) := by rfl) :
    PE X (.Call (.Attribute o m apos) [] [] pos) (fun σ H Q => ta σ H fun x H1 => ∃ a dx fs, x = .ref a ∧ H1 a = some (.ins C dx fs) ∧ fs.lookup m = none ∧ sp [x] H1 Q (WE W σ)) := by
  refine ⟨fun pins s σ H Q I h => ?_⟩
  refine PySem.W.methodCall_KW (pl := pl) (thn (he.run pins s σ H _ I h) fun u s1 ⟨x, H1, I1, rx, a, dx, fs, ex, ea, l, q⟩ => ?_) ht
  subst ex
  obtain rfl : u = Value.ref a := rx
  refine getmeth_ok I1 ea c hm l ?_
  exact PySem.W.callWith_K0 (first := [.ref a]) I1.kIn hm.kp (run_g (us := [.ref a]) (vs := [.ref a]) F rn hb .nil tk I1 (.cons rfl .nil) q)
end
/-- a method of the module's class c -/
structure MethC (P : Program) (w : World) (K : PySem.W.Frag) (mg : Str → Option Value) (base : Heap) (k : Nat) (c m : Str) (ps : List Str) (ctr : Ctr) : Prop where
  ex : ∃ (C f : Addr) (fd : FuncData), PySem.W.nsIn K mainGlobals c = some (some (.ref C)) ∧ Cls K C ∧ Meth K C m f ∧ FnG P w K mg base k f fd ps (spV K ps.length ctr) ∧ Binds K fd ps []
theorem zip_nolook {ns : List Str} {m : Str} (h : m ∉ ns) : ∀ {vs : List V}, (ns.zip vs).lookup m = none := by
  induction ns with
  | nil => intro vs; rfl
  | cons n ns ih =>
    intro vs
    cases vs with
    | nil => rfl
    | cons v vs =>
      rw [List.mem_cons, not_or] at h
      rw [List.zip_cons_cons, List.lookup_cons, beq_eq_false_iff_ne.mpr h.1]
      exact ih h.2
section
variable {X : Cx} {W : WX} {o : Expr} {ta : AE} {k : Nat} {c m : Str} {ps : List Str} {ctr : Ctr} {apos pos : Pos}
def kMethR (Q : KD) (ρ1 : List Sv) : Sv → List Sv → Prop := fun r _ => match r with
  | .dat d => Q d ρ1
  | .own _ xs => Q (.lst xs) ρ1
  | _ => False
def kMethX (Z : KX) (ρ1 : List Sv) : Exc → List Sv → Prop := fun x _ => Z x ρ1
def kMeth0 (Q : KD) (Z : KX) (c m : Str) (ctr : Ctr) : KD := fun d ρ1 => match d with
  | .obj c' ns xs => c' = c ∧ isX ns = false ∧ m ∉ ns ∧ ctr [.dat (.obj c' ns xs)] (kMethR Q ρ1) (kMethX Z ρ1)
  | _ => False
def aMeth0 (c m : Str) (ctr : Ctr) (ta : AE) : AE := fun ρ Q Z => ta ρ (kMeth0 Q Z c m ctr) Z
theorem e_meth0 {pl : Sem Bool} (M : MethC X.prog X.w X.K X.mg X.base k c m ps ctr) (rn : Run k X) (tk : L2N.Takes X W) (he : EX X W o ta) (hl : ps.length = 1 := by rfl)
    (ht : eval (.Call (.Attribute o m apos) [] [] pos) X.env = (do
      let ov ← eval o X.env
      standAt apos.atName
      let (f, first) ← holding [ov] (getMethod ov m pl)
      callWith pos f first (backTo pos (starEach [] X.env)) (backToKw pos (keywordEach [] X.env))) := by rfl) :
    EX X W (.Call (.Attribute o m apos) [] [] pos) (aMeth0 c m ctr ta) := by
  obtain ⟨C, f, fd, hn, cl, me, F, hb⟩ := M.ex
  obtain ⟨T, p, r⟩ := he.ex
  refine ⟨_, pe_mg0 p cl me F rn hb tk ht, fun P G F ρ σ H Q Z Q' R h hz hq => ?_⟩
  refine r P G F ρ σ H _ Z _ R h hz fun G1 ρ1 H1 v d R1 s1 rv q => ?_
  cases d with
  | obj c' ns xs =>
    obtain ⟨rfl, hx, hm, q⟩ := q
    obtain ⟨C', a, dx, vs, g0, e0, g2, g3, g4, g5⟩ := (rp_obj hx).mp rv
    rw [hn] at g0
    cases g0
    subst e0
    refine ⟨a, dx, _, rfl, R1.sg _ _ g2, zip_nolook hm, ?_⟩
    refine call_core (x := m) (as := [.dat (.obj c' ns xs)]) (dds := []) (vs := [.ref a]) (dvs := []) (Z := Z) (Qa := kMethR Q ρ1) (Za := kMethX Z ρ1) R1 hl.symm (show ArL X.K G1 σ [.dat (.obj c' ns xs)] [.ref a] from ⟨_, _, rfl, rv, rfl⟩) (fun _ => RpL.nil) ⟨by simp, by simp⟩ q (hz.mono s1) (fun x ρp z => by rw [show put ρ1 [.dat (.obj c' ns xs)] ρp = ρ1 from put_datsA [_] ρ1 ρp]; exact z) fun G2 ρp H2 r v R2 s2 h1 h2 h3 q => ?_
    rw [show put ρ1 [Ar.dat (.obj c' ns xs)] ρp = ρ1 from put_datsA [_] ρ1 ρp] at R2 h2
    cases r with
    | un => exact q.elim
    | pr _ _ => exact q.elim
    | tre _ => exact q.elim
    | dat d => exact hq G2 _ H2 v d R2 (s1.trans s2) (h1 d rfl) q
    | own b xs =>
      obtain ⟨a', us, rfl, k1, k2, k3, k4, k5⟩ := h2 b xs rfl
      have sG : Same G2 (upd G2 a' (.lst us)) := same_new k2
      exact hq _ _ H2 _ (.lst xs) (R2.keep k1 k2 k3 k4) ((s1.trans s2).trans sG) (rp_lst.mpr ⟨a', us, rfl, SqL.of upd_same, k5.mono sG⟩) q
  | _ => exact q.elim
end
section
variable {ρ ρ1 : List Sv} {Q : KD} {Z : KX} {ta : AE} {c m : Str} {ctr : Ctr} {ns : List Str} {xs ys : List D} {d : D} {b : Bool} {x : Exc} {ρp : List Sv} {QV : D → Prop}
@[simp ↓] theorem q_aMeth0 : aMeth0 c m ctr ta ρ Q Z = ta ρ (kMeth0 Q Z c m ctr) Z := keep rfl
@[simp ↓] theorem q_kMeth0 {c' : Str} : kMeth0 Q Z c m ctr (.obj c' ns xs) ρ1 = (c' = c ∧ isX ns = false ∧ m ∉ ns ∧ ctr [.dat (.obj c' ns xs)] (kMethR Q ρ1) (kMethX Z ρ1)) := keep rfl
@[simp ↓] theorem q_kMethR1 : kMethR Q ρ1 (.dat d) ρp = Q d ρ1 := keep rfl
@[simp ↓] theorem q_kMethR2 : kMethR Q ρ1 (.own b xs) ρp = Q (.lst xs) ρ1 := keep rfl
@[simp ↓] theorem q_bInS {neg : Bool} {x y : Str} : bIn neg (.str x) (.str y) QV = QV (.bl (if neg then !(!(Builtin.Str.occurrences y x 0 y.length 1).isEmpty) else !(Builtin.Str.occurrences y x 0 y.length 1).isEmpty)) := keep rfl
@[simp ↓] theorem q_kMethX : kMethX Z ρ1 x ρp = Z x ρ1 := keep rfl
end
/-! ### an __init__ that keeps its arguments -/
theorem putF_snoc {f : Str} {v : V} : ∀ {fs : List (Str × V)}, f ∉ fs.map (·.1) → putF f v fs = fs ++ [(f, v)]
  | [], _ => rfl
  | (g, u) :: fs, h => by
    rw [List.map_cons, List.mem_cons, not_or] at h
    show (if g = f then (g, v) :: fs else (g, u) :: putF f v fs) = _
    rw [if_neg fun z => h.1 z.symm, putF_snoc h.2]
    rfl
theorem fldOk_of {K : PySem.W.Frag} {c f : Str} {C : Addr} (a : PySem.W.nsIn K mainGlobals c = some (some (.ref C))) (cl : Cls K C) (n : NoAttr K C f) : FldOk K c f := fun C' e => by
  rw [a] at e
  cases e
  exact ⟨cl, n⟩
end VS
/-! VSw: a, b = x, y and a, b, c = x, y, z, own lists among them; while; tuples put together. -/
namespace VS
open PySem PySem.Spec PyProof.Rows L2
/-! ### results of several expressions, own lists among them -/
/-- vs are the values ss; the own lists stand in the frame Fx, each apart from F0 and from the ones before -/
def MRx (K : PySem.W.Frag) (G Fx : Hp) : Hp → List Sv → List V → Prop
  | _, [], vs => vs = []
  | F0, .dat d :: ss, vs => ∃ v r, vs = v :: r ∧ Rp K G d v ∧ MRx K G Fx F0 ss r
  | F0, .own false xs :: ss, vs => ∃ a us r, vs = .ref a :: r ∧ F0 a = none ∧ Fx a = some (.lst us) ∧ RpL K G xs us ∧ MRx K G Fx (upd F0 a (.lst us)) ss r
  | _, _ :: _, _ => False
theorem MRx.mono {K : PySem.W.Frag} {G G' Fx : Hp} (e : Same G G') : ∀ {ss : List Sv} {F0 : Hp} {vs : List V}, MRx K G Fx F0 ss vs → MRx K G' Fx F0 ss vs
  | [], _, _, h => h
  | .dat d :: ss, _, _, ⟨v, r, h1, h2, h3⟩ => ⟨v, r, h1, h2.mono e, MRx.mono e h3⟩
  | .own false xs :: ss, _, _, ⟨a, us, r, h1, h2, h3, h4, h5⟩ => ⟨a, us, r, h1, h2, h3, h4.mono e, MRx.mono e h5⟩
  | .own true xs :: ss, _, _, h => h
  | .un :: ss, _, _, h => h
  | .pr _ _ :: ss, _, _, h => h
  | .tre _ :: ss, _, _, h => h
def delH (F : Hp) (a : Addr) : Hp := fun c => if c = a then none else F c
theorem delH_ne {F : Hp} {a c : Addr} (h : c ≠ a) : delH F a c = F c := by unfold delH; rw [if_neg h]
theorem MRx.del {K : PySem.W.Frag} {G Fx : Hp} {a : Addr} : ∀ {ss : List Sv} {F1 F0 : Hp} {vs : List V}, (∀ c, F1 c = none → F0 c = none ∧ c ≠ a) → MRx K G Fx F1 ss vs → MRx K G (delH Fx a) F0 ss vs
  | [], _, _, _, _, h => h
  | .dat d :: ss, _, _, _, hc, ⟨v, r, h1, h2, h3⟩ => ⟨v, r, h1, h2, MRx.del hc h3⟩
  | .own false xs :: ss, F1, F0, _, hc, ⟨b, us, r, h1, h2, h3, h4, h5⟩ => by
    obtain ⟨k1, k2⟩ := hc b h2
    refine ⟨b, us, r, h1, k1, by rw [delH_ne k2]; exact h3, h4, MRx.del (fun c hn => ?_) h5⟩
    by_cases e : c = b
    · rw [e, upd_same] at hn; cases hn
    · rw [upd_ne e] at hn; rw [upd_ne e]; exact hc c hn
  | .own true xs :: ss, _, _, _, _, h => h
  | .un :: ss, _, _, _, _, h => h
  | .pr _ _ :: ss, _, _, _, _, h => h
  | .tre _ :: ss, _, _, _, _, h => h
abbrev AM := List Sv → (List Sv → List Sv → Prop) → KX → Prop
/-- stored one behind the other -/
def mStore : List Nat → List Sv → List Sv → (List Sv → Prop) → Prop
  | i :: is, s :: ss, ρ, Q => okSet ρ i ∧ mStore is ss (ρ.set i s) Q
  | [], [], ρ, Q => Q ρ
  | _, _, _, _ => False
def kParM (E : AEnds) (is : List Nat) : List Sv → List Sv → Prop := fun ss ρ1 => mStore is ss ρ1 E.nx
def sParM (is : List Nat) (t : AM) : AS := fun E ρ => t ρ (kParM E is) E.xx
section
variable {ρ ρ1 : List Sv} {Q : List Sv → List Sv → Prop} {R : List Sv → Prop} {Z : KX} {ta : AE} {oa : AO} {u : AM} {d : D} {xs : List D} {s : Sv} {ss : List Sv} {E : AEnds} {i : Nat} {is : List Nat}
@[simp ↓] theorem q_sParM : sParM is u E ρ = u ρ (kParM E is) E.xx := keep rfl
@[simp ↓] theorem q_kParM : kParM E is ss ρ1 = mStore is ss ρ1 E.nx := keep rfl
@[simp ↓] theorem q_mStore1 : mStore (i :: is) (s :: ss) ρ R = (okSet ρ i ∧ mStore is ss (ρ.set i s) R) := keep rfl
@[simp ↓] theorem q_mStore0 : mStore [] [] ρ R = R ρ := keep rfl
end
/-! ### while -/
def kWh (tb : AS) (E : AEnds) (X : List Sv → Prop) : Bool → List Sv → Prop := fun b ρ1 => if b = true then tb { E with nx := X, ct := X, bk := E.nx } ρ1 else E.nx ρ1
@[simp ↓] theorem q_kWh {tb : AS} {E : AEnds} {X : List Sv → Prop} {b : Bool} {ρ : List Sv} : kWh tb E X b ρ = if b = true then tb { E with nx := X, ct := X, bk := E.nx } ρ else E.nx ρ := keep rfl
theorem while_of {tc : AT} {tb : AS} {E : AEnds} {ρ : List Sv} (I : Nat → List Sv → Prop) (m : Nat) (h0 : I m ρ) (hs : ∀ m ρ (X : List Sv → Prop), I m ρ → (∀ m' ρ', m' < m → I m' ρ' → X ρ') → tc ρ (kWh tb E X) E.xx) : sWhile tc tb E ρ :=
  ⟨I, ⟨m, h0⟩, fun m ρ hI => hs m ρ (fun ρ2 => ∃ m', m' < m ∧ I m' ρ2) hI fun m' ρ' hm h => ⟨m', hm, h⟩⟩
/-! ### a + b: also of tuples -/
def bAddB : D → D → (D → Prop) → Prop
  | .int i, .int j, Q => Q (.int (i + j))
  | .str x, .str y, Q => x.length + y.length ≤ sizeLine ∧ Q (.str (x ++ y))
  | .lst xs, .lst ys, Q => xs.length + ys.length ≤ sizeLine ∧ Q (.lst (xs ++ ys))
  | .tup xs, .tup ys, Q => xs.length + ys.length ≤ sizeLine ∧ Q (.tup (xs ++ ys))
  | _, _, _ => False
section
variable {X : Cx} {K : PySem.W.Frag}
def rAddB (K : PySem.W.Frag) : R2 := fun x y H Q => rAdd3 K x y H Q ∨ rCatA K x y H Q
theorem op_addB : OpR X (binaryOp .Add) (rAddB X.K) := OpR.or op_addA op_catA
theorem b2_addB : B2 K (rAddB K) bAddB := fun J H d e v u Q Q' s rv ru h hq => by
  cases d <;> cases e <;> first
    | exact h.elim
    | exact .inl (b2_add J H (.int _) (.int _) v u Q Q' s rv ru h hq)
    | exact .inl (b2_add J H (.str _) (.str _) v u Q Q' s rv ru h hq)
    | exact .inl (b2_add J H (.lst _) (.lst _) v u Q Q' s rv ru h hq)
    | skip
  rename_i xs ys
  obtain ⟨a, vs, rfl, h2, h3⟩ := rp_tup.mp rv
  obtain ⟨b, us, rfl, g2, g3⟩ := rp_tup.mp ru
  refine .inr ⟨a, b, vs, us, rfl, rfl, Same.seqT s h2, Same.seqT s g2, by rw [← h3.length, ← g3.length]; exact h.1, fun e => ?_, fun e1 e2 => ?_, fun e1 e2 p hp => ?_⟩
  all_goals skip
  · subst e
    have : xs = [] := List.length_eq_zero_iff.mp (by rw [h3.length]; rfl)
    subst this
    exact hq J H _ _ (Grow.refl s) ru (by simpa using h.2)
  · subst e2
    have : ys = [] := List.length_eq_zero_iff.mp (by rw [g3.length]; rfl)
    subst this
    exact hq J H _ _ (Grow.refl s) rv (by simpa using h.2)
  · have g := Grow.new (o := .tup (vs ++ us)) s hp
    exact hq _ _ _ _ g (rp_tup.mpr ⟨p, _, rfl, SqT.of upd_same, (h3.append g3).mono g.j⟩) h.2
end
section
variable {i j : Int} {x y : Str} {xs ys : List D} {Q : D → Prop}
@[simp ↓] theorem q_bAddBI : bAddB (.int i) (.int j) Q = Q (.int (i + j)) := keep rfl
@[simp ↓] theorem q_bAddBS : bAddB (.str x) (.str y) Q = (x.length + y.length ≤ sizeLine ∧ Q (.str (x ++ y))) := keep rfl
@[simp ↓] theorem q_bAddBL : bAddB (.lst xs) (.lst ys) Q = (xs.length + ys.length ≤ sizeLine ∧ Q (.lst (xs ++ ys))) := keep rfl
@[simp ↓] theorem q_bAddBT : bAddB (.tup xs) (.tup ys) Q = (xs.length + ys.length ≤ sizeLine ∧ Q (.tup (xs ++ ys))) := keep rfl
end
end VS
/-! VSx: exceptions: raised, caught, kept as data. -/
namespace VS
open PySem PySem.Spec PyProof.Rows L2
/-! ### statements over a family of contexts -/
def wpS (C : Cx → Prop) (sts : List Stmt) : TS := fun D σ H => ∀ Y, C Y → ∀ pins s, Inv Y pins σ H s → wpAny (model Y.prog Y.w) Y.A (execs sts Y.env) (SP Y pins D) Y.xe s
theorem pss_wp {C : Cx → Prop} {sts : List Stmt} {X : Cx} (h : C X) : PSs X sts (wpS C sts) := ⟨fun pins s σ H D I q => q X h pins s I⟩
/-! ### a caught exception is tracked -/
theorem inv_track {X : Cx} {pins : List (Addr × Obj)} {σ : St} {H : Hp} {s : Shared} {a : Addr} {oe : Obj} (I : Inv X pins σ H s) (he : s.heap.get? a = some oe) (na : H a = none) (n0 : X.s_0.heap.get? a = none) (nL : a ≠ X.env.locals)
    (nC : ∀ x c, X.env.cells.lookup x = some c → c ≠ a) (nP : ∀ p ∈ X.pn ++ pins, p.1 ≠ a) : Inv X pins σ (upd H a (xo a oe)) s := by
  have neB : ∀ b o, X.s_0.heap.get? b = some o → b ≠ a := fun b o e z => by rw [z, n0] at e; cases e
  refine ⟨I.ok, I.os, I.bare, ⟨I.base.keep, I.base.slot, fun b o e n hx => ?_, I.base.there, fun b xs e => ?_, fun b o u e => ?_, fun b ps e => ?_⟩, I.loc, I.cell, ?_, fun x c e => ?_, fun p hp => ?_, ?_, I.len⟩
  · rw [upd_ne (neB b o e)]; exact I.base.free b o e n hx
  · have q := I.base.tups b xs e
    rw [upd_ne (ne_of_none q na)]; exact q
  · have q := I.base.frzs b o u e
    rw [upd_ne (ne_of_none q na)]; exact q
  · obtain ⟨m, q⟩ := I.base.tbls b ps e
    exact ⟨m, by rw [upd_ne (ne_of_none q na)]; exact q⟩
  · rw [upd_ne (Ne.symm nL)]; exact I.free
  · rw [upd_ne (nC x c e)]; exact I.freeC x c e
  · obtain ⟨h1, h2, h3, h4, h5⟩ := I.pin p hp
    exact ⟨h1, by rw [upd_ne (nP p hp)]; exact h2, h3, h4, h5⟩
  · exact I.hok.laidN (fun _ _ q => q) na ⟨he, ⟨oe, he⟩, fun h1 h2 z k => k _ z⟩
theorem xo_at {P : Program} {w : World} {H : Hp} {h : Heap} {a : Addr} {oe : Obj} (hok : HOk P w H h) (e : H a = some (xo a oe)) : h.get? a = some oe := by
  have x : ObjOk P w H h a (.ext fun h => h.get? a = some oe) := hok a _ e
  exact x.1
/-- what the clause 'except x as n' wishes; the exception is tracked -/
def wAsV (K : PySem.W.Frag) (c : Value) (i : Nat) (ts : Addr → TS) (Wout : WX) (D : Ends) : WX := fun cls d σ H =>
  ∃ b, PySem.W.exmOne K cls c = some b ∧ (b = true → ∀ a oe, H a = none → L2N.Zn cls d oe → (∃ vs, oe.data = .fields vs) → ts a { nx := fun σ' H' => D.nx (σ'.set i none) H', rt := D.rt, bk := fun σ' H' => D.bk (σ'.set i none) H', ct := fun σ' H' => D.ct (σ'.set i none) H' } (σ.set i (some (.ref a))) (upd H a (xo a oe))) ∧
    (b = false → Wout cls d σ H)
section
variable {X : Cx} {x n : Str} {c : Value} {i : Nat} {body suite : List Stmt} {b₀ : Stmt} {np pos pos' : Pos} {tb : WX → TS} {ts : Addr → TS} {Wout : WX}
theorem ps_try_asV (hex : X.ex = []) (hs : X.stack = X.env :: X.outer) (hf : X.env.frame = some X.env.locals) (hN : X.N.Nodup) (hi : X.N[i]? = some n) (hln : X.env.kindOf n = some .local) (hc : Names X x c) (tk : L2N.Takes X Wout)
    (hb : ∀ (W : WX) (pn : List (Addr × Obj)) (xe : Value → Shared → Prop), L2N.Takes (X.tr pn xe) W → PassesOwn (model X.prog X.w) X.A X.env xe → PSs (X.tr pn xe) body (tb W))
    (hsu : ∀ (a : Addr) (pn : List (Addr × Obj)), PSs (X.suite a pn) (b₀ :: suite) (ts a)) :
    PS X (.Try body [.ExceptHandler (some (.Name x np)) (some n) (b₀ :: suite) pos'] [] [] pos) (fun D σ H => tb (wAsV X.K c i ts Wout D) D σ H) := by
  refine ⟨fun pins s σ H D I h => ?_⟩
  have ok := I.ok
  have hfr : X.A.frames = some (X.env :: X.outer) := by rw [ok.frames, hs]
  have hloc : Loc X.env.scope n := .inl hln
  refine wpAny_Try_except ?_
  refine wpAny_mono ((hb (wAsV X.K c i ts Wout D) (X.pn ++ pins) (fun e s₁ => wpAny (model X.prog X.w) X.A (noteFrame e X.env) (fun _ s₂ => wpAny (model X.prog X.w) X.A (setFlight e none) (fun _ s₃ =>
    wpAny (model X.prog X.w) X.A (handleBy e X.env [.ExceptHandler (some (.Name x np)) (some n) (b₀ :: suite) pos']) (SP X pins D) X.xe s₃) X.xe s₂) X.xe s₁) (fun u s' xx => ?_) PassesOwn.looking).run [] s σ H D (I.toTry _) h) (fun f s1 hsp => ?_) (fun e s1 he => he)
  · -- the catch
    obtain ⟨a, B, sI, pins', σ', H', cls, d, rfl, J', nb, up, sky, na, os, ag, b, hb1, hyes, hno⟩ := xx
    have J : Inv X pins σ' H' sI := J'.ofTry ok
    have sky' : Sky B (X.env :: X.outer) a (L2N.Zn cls d) X.env.locals s'.heap := by rw [← hs]; exact sky
    show wpAny (model X.prog X.w) X.A (noteFrame (.ref a) X.env) _ _ _
    refine L2N.Sky.land L2N.Zn.steady hfr hf sky' fun h3 fl3 up3 => ?_
    have J3 : Inv X pins σ' H' { s' with heap := h3 } := J.landed nb fl3.1 (up.trans up3) os ag
    obtain ⟨oe3, vs3, he3, hz3, hd3⟩ := fl3.there
    have notFr : ∀ {h : Heap} {o : Obj} {vs : Array Value}, h.FunFrames B (X.env :: X.outer) → h.get? a = some o → o.data = .fields vs → a ∉ frs (X.env :: X.outer) := fun {h o vs} ff e dd hm => by
      obtain ⟨_, o', e', hnf⟩ := ff.mem hm
      rw [e] at e'; cases e'
      exact hnf _ dd
    have nfr := notFr fl3.2.2.1 he3 hd3
    have nL : a ≠ X.env.locals := fun z => nfr (List.mem_filterMap.mpr ⟨X.env, List.mem_cons_self, by rw [hf, z]⟩)
    have nF : a ∉ X.fs := fun hm => by
      obtain ⟨e, he, q⟩ := List.mem_filterMap.mp hm
      exact nfr (List.mem_filterMap.mpr ⟨e, List.mem_cons_of_mem _ he, q⟩)
    have old : ∀ b o, sI.heap.get? b = some o → b ≠ a := fun b o e z => by
      have q := nb b o e (by rw [z, hs]; exact nfr)
      rw [z, fl3.2.1] at q
      cases q
    have S3 := J3.suite he3 hd3 na nL nF
    refine wpAny_handleBy_cons (codeAny_handlers_test ?_) (by intro q; cases q)
    have LT : PySem.W.Looks (model X.prog X.w) h3 (typeOf (.ref a)) cls := fun A Q E s k q => wpAny_typeOf_ref (k _ _ he3) (by rw [hz3.1]; exact q)
    have LM := PySem.W.exm_one (M := model X.prog X.w) (J3.kIn) LT hb1
    have test : ∀ {Q : Value → Shared → Prop} {E : Value → Shared → Prop}, Q c { s' with heap := h3 } → wpAny (model X.prog X.w) (X.A.mark (some (.ref a))) (eval (.Name x np) X.env) Q E { s' with heap := h3 } := fun {Q E} q => by
      obtain ⟨hg, hdbg, hm | ⟨hm, hv, hnn⟩⟩ := hc
      · exact ld_glob (X := X.suite a ((a, oe3) :: (X.pn ++ pins))) S3 hg hm q hdbg
      · exact ld_blt (X := X.suite a ((a, oe3) :: (X.pn ++ pins))) S3 hg hm hv q hnn hdbg
    refine test (LM.here ?_)
    cases b with
    | true =>
      refine codeAny_handlers_suite_as ?_
      refine HandSPX.lands_againZ fl3 fun h4 fl4 up4 => ?_
      have J4 : Inv X pins σ' H' { s' with heap := h4 } := J.landed nb fl4.1 ((up.trans up3).trans up4) os ag
      obtain ⟨oe4, vs4, he4, hz4, hd4⟩ := fl4.there
      have T4 : Inv X pins σ' (upd H' a (xo a oe4)) { s' with heap := h4 } := by
        refine inv_track J4 he4 na ?_ nL (fun x' c' e z => ?_) (fun p hp z => ?_)
        · cases q : X.s_0.heap.get? a with
          | none => rfl
          | some o =>
            obtain ⟨o', q'⟩ := J.base.there a o q (by rw [hex]; exact fun z => nomatch z)
            exact absurd rfl (old a o' q')
        · obtain ⟨v, o, ho, _⟩ := J.cell x' c' e
          exact old c' o ho z
        · exact old p.1 p.2 (J.pin p hp).1 z
      have S4 : Inv (X.suite a (X.pn ++ pins)) [] σ' (upd H' a (xo a oe4)) { s' with heap := h4 } :=
        ⟨T4.ok.suite _ _, T4.os, T4.bare, T4.base, T4.loc, T4.cell, T4.free, T4.freeC, fun p hp => T4.pin p (by rw [List.append_nil] at hp; exact hp), T4.hok, T4.len⟩
      refine store_ok (X := X.suite a (X.pn ++ pins)) (v := .ref a) S4 hN hi hloc rfl (fun s5 S5 => ?_) (.inr hln)
      refine wpAny_mono ((hsu a (X.pn ++ pins)).run [] s5 _ _ _ S5 (hyes rfl a oe4 na hz4 ⟨_, hd4⟩)) (fun f s6 hsp => ?_) (fun _ _ z => False.elim z)
      have end_ : ∀ {σ6 : St} {H6 : Hp} {Q : Shared → Prop}, Inv (X.suite a (X.pn ++ pins)) [] σ6 H6 s6 → (∀ s7, Inv X pins (σ6.set i none) H6 s7 → Q s7) →
          wpAny (model X.prog X.w) X.A (do bindName X.env n .none; unbindBehindTheSuite X.env n pos') (fun _ s7 => Q s7) X.xe s6 := fun {σ6 H6 Q} S6 hq =>
        gone_ok (⟨ok, S6.os, S6.bare, S6.base, S6.loc, S6.cell, S6.free, S6.freeC, fun p hp => S6.pin p (by rw [List.append_nil]; exact hp), S6.hok, S6.len⟩ : Inv X pins σ6 H6 s6) hN hi hln hq
      cases f with
      | next =>
        obtain ⟨σ6, H6, S6, q6⟩ := hsp
        exact end_ S6 fun s7 J7 => ⟨_, _, J7, q6⟩
      | brk =>
        obtain ⟨σ6, H6, S6, q6⟩ := hsp
        exact end_ S6 fun s7 J7 => ⟨_, _, J7, q6⟩
      | cont =>
        obtain ⟨σ6, H6, S6, q6⟩ := hsp
        exact end_ S6 fun s7 J7 => ⟨_, _, J7, q6⟩
      | ret u =>
        obtain ⟨v6, σ6, H6, S6, r6, q6⟩ := hsp
        exact end_ S6 fun s7 J7 => ⟨_, _, _, J7, r6, q6⟩
    | false =>
      show wpAny _ X.A (handleBy (.ref a) X.env []) _ _ _
      refine wpAny_handleBy_nil ?_
      obtain ⟨k1, k2, k3, oe, vs, T, oT, ts', he, hz, hd, h1, hr⟩ := id fl3
      unfold PySem.passOn
      refine wpAny_bind (wpAny_field he hd h1 ?_)
      rw [if_neg (show ¬ ((Value.ref T == Value.none) = true) from by simp)]
      have fin : wpAny (model X.prog X.w) X.A (setFlight (.ref a) X.env.frame) (fun _ s4 => wpAny (model X.prog X.w) X.A (throw (.ref a) : Sem Flow) (SP X pins D) X.xe s4) X.xe { s' with heap := h3 } := by
        rw [hf]
        refine HandSPX.setFlight_upZ fl3 fun h4 hh4 up4 => wpAny_throw (tk _ _ ?_)
        exact ⟨a, B, sI, pins, σ', H', cls, d, rfl, J, nb, (up.trans up3).trans up4, .inr (.inr (by rw [hs]; exact hh4)), na, os, ag, hno rfl⟩
      first
        | exact wpAny_bind (wpAny_pure (wpAny_bind fin))
        | exact wpAny_bind fin
  · cases f with
    | next =>
      obtain ⟨σ', H', J', q⟩ := hsp
      exact wpAny_execs_nil ⟨σ', H', J'.ofTry ok, q⟩
    | brk =>
      obtain ⟨σ', H', J', q⟩ := hsp
      exact ⟨σ', H', J'.ofTry ok, q⟩
    | cont =>
      obtain ⟨σ', H', J', q⟩ := hsp
      exact ⟨σ', H', J'.ofTry ok, q⟩
    | ret u =>
      obtain ⟨v, σ', H', J', r, q⟩ := hsp
      exact ⟨v, σ', H', J'.ofTry ok, r, q⟩
end
/-! ### try: .. except x as n: .. -/
/-- the exception as data -/
def excD (x : Exc) : D := match x.fld with
  | none => .obj x.c ["!"] [.non]
  | some (f, y) => .obj x.c ["!", f] [.non, y]
/-- which classes an except clause catches -/
def CatchC (K : PySem.W.Frag) (c : Value) (cl : List (Str × Bool)) : Prop := ∀ n b, cl.lookup n = some b → ∀ C, PySem.W.nsIn K mainGlobals n = some (some (.ref C)) → PySem.W.exmOne K (.ref C) c = some b
def kTryN (N : List Sv → Prop) (i : Nat) : List Sv → Prop := fun ρ2 => noOwn ρ2 i ∧ N (ρ2.set i .un)
def kTryX (D : AEnds) (i : Nat) (cl : List (Str × Bool)) (ts : AS) : KX := fun x ρ' => ∃ b, cl.lookup x.c = some b ∧ if b = true then okSet ρ' i ∧ ts { nx := kTryN D.nx i, rt := D.rt, bk := kTryN D.bk i, ct := kTryN D.ct i, xx := noX } (ρ'.set i (.dat (excD x))) else D.xx x ρ'
def sTryAs (i : Nat) (cl : List (Str × Bool)) (tb ts : AS) : AS := fun D ρ => tb { D with xx := kTryX D i cl ts } ρ
theorem isX_bang : isX ["!"] = true := by decide +kernel
theorem isX_bang2 {f : Str} : isX ["!", f] = true := by
  show (some ("!" : Str) == some ("!" : Str)) = true
  simp
theorem rp_exc {K : PySem.W.Frag} {G H : Hp} {x : Exc} {cls : Value} {d : Option Addr} {a : Addr} {oe : Obj} (E : ExcIs K G H x cls d) (hz : Zc cls d oe) (hv : ∃ vs, oe.data = .fields vs) (ha : G a = none) : Rp K (upd G a (xo a oe)) (excD x) (.ref a) := by
  obtain ⟨⟨C, h1, rfl⟩, h2⟩ := E
  obtain ⟨c, fld⟩ := x
  have s : Same G (upd G a (xo a oe)) := same_new ha
  cases fld with
  | none =>
    simp only at h2
    subst h2
    exact rp_objA.mpr ⟨C, a, [.non], h1, rfl, rfl, RpL.cons (rp_non.mpr rfl) RpL.nil, .inr ⟨isX_bang, oe, upd_same, hz.1, hv, hz.2⟩⟩
  | some p =>
    obtain ⟨f, y⟩ := p
    obtain ⟨dx, v, rfl, k1, k2⟩ := h2
    exact rp_objA.mpr ⟨C, a, [.non, v], h1, rfl, rfl, RpL.cons (rp_non.mpr rfl) (RpL.cons (k2.mono s) RpL.nil), .inr ⟨isX_bang2, oe, upd_same, hz.1, hv, dx, hz.2, s _ _ k1⟩⟩
section
variable {X : Cx} {W : WX} {x n : Str} {c : Value} {i : Nat} {body suite : List Stmt} {b₀ : Stmt} {np pos pos' : Pos} {tb ts : AS} {cl : List (Str × Bool)}
theorem s_try_as (hN : X.N.Nodup) (hc : Names X x c) (tk : L2N.Takes X W) (hcl : CatchC X.K c cl)
    (hb : ∀ (W' : WX) (pn : List (Addr × Obj)) (xe : Value → Shared → Prop), L2N.Takes (X.tr pn xe) W' → PassesOwn (model X.prog X.w) X.A X.env xe → SXs (X.tr pn xe) W' body tb)
    (hsu : ∀ (a : Addr) (pn : List (Addr × Obj)), SXs (X.suite a pn) noW (b₀ :: suite) ts)
    (hi : X.N[i]? = some n := by rfl) (hln : X.env.kindOf n = some .local := by rfl) (hex : X.ex = [] := by rfl) (hs : X.stack = X.env :: X.outer := by rfl) (hf : X.env.frame = some X.env.locals := by rfl) :
    SX X W (.Try body [.ExceptHandler (some (.Name x np)) (some n) (b₀ :: suite) pos'] [] [] pos) (sTryAs i cl tb ts) := by
  let famT : WX → Cx → Prop := fun W' Y => ∃ pn xe, Y = X.tr pn xe ∧ L2N.Takes (X.tr pn xe) W' ∧ PassesOwn (model X.prog X.w) X.A X.env xe
  let famS : Addr → Cx → Prop := fun a Y => ∃ pn, Y = X.suite a pn
  refine ⟨_, ps_try_asV (tb := fun W' => wpS (famT W') body) (ts := fun a => wpS (famS a) (b₀ :: suite)) hex hs hf hN hi hln hc tk (fun W' pn xe t po => pss_wp ⟨pn, xe, rfl, t, po⟩) (fun a pn => pss_wp ⟨pn, rfl⟩), fun P G F ρ σ H D D' R h hd => ?_⟩
  rintro Y ⟨pn, xe, rfl, tkY, poY⟩ pins s I
  obtain ⟨T, p, r⟩ := (hb _ pn xe tkY poY).ex
  refine p.run pins s σ H D' I (r P G F ρ σ H _ D' R h ⟨hd.nx, hd.rt, hd.bk, hd.ct, fun σ' G1 ρ1 H1 y cls d R1 s1 E ⟨b, hlk, z⟩ => ?_⟩)
  obtain ⟨⟨C, hn, ecls⟩, _⟩ := id E
  refine ⟨b, by rw [ecls]; exact hcl y.c b hlk C hn, fun hbt a oe na hz hv => ?_, fun hbf => ?_⟩
  · rw [if_pos hbt] at z
    obtain ⟨okS, z⟩ := z
    rintro Y ⟨pn', rfl⟩ pins2 s2 I2
    obtain ⟨T2, p2, r2⟩ := (hsu a pn').ex
    have R1' : Rel X.K P G1 F ρ1 σ' H1 := R1
    have g := Grow.new (o := xo a oe) R1'.sg na
    have ga : G1 a = none := R1'.sg.free na
    have R2 := (R1'.grow g).setD okS (rp_exc E hz.zc hv ga)
    refine p2.run pins2 s2 _ _ _ I2 (r2 P _ F _ _ _ _ _ R2 z ⟨fun G3 ρ3 σ3 H3 R3 s3 ⟨hno, q⟩ => ?_, fun G3 ρ3 σ3 H3 r v R3 s3 rr q => ?_, fun G3 ρ3 σ3 H3 R3 s3 ⟨hno, q⟩ => ?_, fun G3 ρ3 σ3 H3 R3 s3 ⟨hno, q⟩ => ?_, fun _ => xin_no⟩)
    · exact hd.nx G3 _ _ H3 (Rel.wipe1 R3 hno) ((s1.trans g.j).trans s3) q
    · exact hd.rt G3 _ σ3 H3 r v R3 ((s1.trans g.j).trans s3) rr q
    · exact hd.bk G3 _ _ H3 (Rel.wipe1 R3 hno) ((s1.trans g.j).trans s3) q
    · exact hd.ct G3 _ _ H3 (Rel.wipe1 R3 hno) ((s1.trans g.j).trans s3) q
  · rw [if_neg (by rw [hbf]; exact Bool.false_ne_true)] at z
    exact (hd.xx σ') G1 ρ1 H1 y cls d R1 s1 E z
end
section
variable {ρ : List Sv} {D : AEnds} {i : Nat} {cl : List (Str × Bool)} {tb ts : AS} {x : Exc} {N : List Sv → Prop}
@[simp ↓] theorem q_sTryAs : sTryAs i cl tb ts D ρ = tb { D with xx := kTryX D i cl ts } ρ := keep rfl
theorem q_kTryX {b : Bool} (h : cl.lookup x.c = some b) : kTryX D i cl ts x ρ = (if b = true then okSet ρ i ∧ ts { nx := kTryN D.nx i, rt := D.rt, bk := kTryN D.bk i, ct := kTryN D.ct i, xx := noX } (ρ.set i (.dat (excD x))) else D.xx x ρ) := by
  unfold kTryX
  rw [h]
  exact propext ⟨fun ⟨b', e, z⟩ => by cases e; exact z, fun z => ⟨b, rfl, z⟩⟩
@[simp ↓] theorem q_kTryN : kTryN N i ρ = (noOwn ρ i ∧ N (ρ.set i .un)) := keep rfl
end
/-! ### raise -/
structure RaiC (K : PySem.W.Frag) (mg : Str → Option Value) (c : Str) : Prop where
  ex : ∃ C, PySem.W.nsIn K mainGlobals c = some (some (.ref C)) ∧ mg c = some (.ref C) ∧ PySem.W.excIn K C [.type "ValueError", .type "Exception", .type "BaseException", .type "object"] "ValueError.__new__" = true ∧ PySem.W.keepIn K (.ref C) = true ∧ PySem.W.subIn K (.ref C) (.type "BaseException") = some true ∧ PySem.W.typeIn K (.ref C) = some (.type "type")
def sRaise0 (c : Str) : AS := fun D ρ => D.xx ⟨c, none⟩ ρ
def spX (C : Addr) (f : Str) : Sp := fun vs H Q _ => ∃ a v, vs = [.ref a, v] ∧ H a = some (exo a C none) ∧ ∀ dx, H dx = none → dx ≠ a → Q .non (upd (upd H dx (exd dx [(f, v)])) a (exo a C (some dx)))
structure RaiF (P : Program) (w : World) (K : PySem.W.Frag) (mg : Str → Option Value) (base : Heap) (k : Nat) (c f : Str) : Prop where
  ex : ∃ (C fI : Addr) (fd : FuncData) (ps : List Str), PySem.W.nsIn K mainGlobals c = some (some (.ref C)) ∧ mg c = some (.ref C) ∧ OexC K C ∧ PySem.W.findIn K (.ref C) "__init__" = some (some (.ref fI)) ∧ PySem.W.typeIn K (.ref fI) = some (.type "function") ∧
    FnOk P w K mg base (L2N.CX P w) k fI fd ps (spX C f) ∧ Binds K fd ps []
def kRaise1 (D : AEnds) (c f : Str) : KD := fun y ρ1 => D.xx ⟨c, some (f, y)⟩ ρ1
def sRaise1 (c f : Str) (t : AE) : AS := fun D ρ => t ρ (kRaise1 D c f) D.xx
section
variable {X : Cx} {W : WX} {c f m : Str} {j : Nat} {p p2 pos pos' : Pos} {e : Expr} {te : AE}
theorem s_raise0 (hc : X.calm = true) (tk : L2N.Takes X W) (r : RaiC X.K X.mg c) (hg : Gl X c) (hdb : (c == ("__debug__" : Str)) = false := by decide) : SX X W (.Raise (some (.Call (.Name c p) [.Constant (.str m) j p2] [] pos)) none pos') (sRaise0 c) := by
  obtain ⟨C, h1, h2, h3, h4, h5, h6⟩ := r.ex
  refine ⟨_, L2N.ps_raise hc tk (L2N.pmk_own PySem.F.excBase_ValueError h3 h2 h4 (raises_own h5 h6) hg hdb), fun P G F ρ σ H D D' R h hd => ?_⟩
  exact (hd.xx σ) G ρ H ⟨c, none⟩ (.ref C) none R (Same.refl _) ⟨⟨C, h1, rfl⟩, rfl⟩ h
theorem upd_del {H : Hp} {a dx : Addr} {o1 o2 o3 o : HO} (ha : H a = none) (hne : dx ≠ a) : upd (L2.del (upd (upd (upd H a o1) dx o2) a o3) a) dx o = upd H dx o := by
  funext b
  by_cases hb : b = dx
  · rw [hb, upd_same, upd_same]
  · rw [upd_ne hb, upd_ne hb]
    by_cases hba : b = a
    · rw [hba, L2.del_same, ha]
    · rw [L2.del_ne hba, upd_ne hba, upd_ne hb, upd_ne hba]
/-- C(e, ..) of an exception class with its own __init__: the new object's context is None -/
theorem pmk_oexN {cx : CXT} {y : Str} {Cl g : Addr} {n : Nat} {fdt : FuncData} {prs : List Str} {sp : Sp} {dfl : List Value} {dfv : List V} {a1 : Expr} {as : List Expr} {tA : TA} {q1 q2 : Pos} (T : OexC X.K Cl)
    (hI : PySem.W.findIn X.K (.ref Cl) "__init__" = some (some (.ref g))) (hT : PySem.W.typeIn X.K (.ref g) = some (.type "function")) (FF : FnOk X.prog X.w X.K X.mg X.base cx n g fdt prs sp) (room : Room (n + 1) X.A)
    (bnd : Binds X.K fdt prs dfl) (vls : Vals dfv dfl) (pass : Passes cx X (fun _ _ _ => False)) (glb : Gl X y) (nam : X.mg y = some (.ref Cl)) (pA : PA X (a1 :: as) tA) (ndb : (y == ("__debug__" : Str)) = false := by decide)
    (hs1 : starEach (a1 :: as) X.env = (false, eval a1 X.env) :: starEach as X.env := by rfl) (hp1 : (backTo q2 (starEach as X.env)).any (·.1) = false := by rfl) : L2N.PMk X (.Call (.Name y q1) (a1 :: as) [] q2) (tMkO Cl sp dfv tA) :=
  fun pins s σ H Q I h => by
    obtain ⟨_, _, _, _, bm, _, _, _, _, _, _, _, _, _, _, hCl, hbm⟩ := T.cls
    refine wpAny_Call_Name_kw (ld_glob I glb nam (PySem.W.callWith_K (h₀ := X.base) I.ok.mod.kin T.kC (thn (pA.run q2 pins s σ H _ I h) fun us s1 ⟨vs, H1, I1, r1, hz, qq⟩ => ⟨I1.kIn, ?_⟩) hs1 hp1) ndb)
    show wpAny _ _ (call (.ref Cl) us) _ _ _
    obtain ⟨hp, gs, dr, tk, os⟩ := s1
    obtain ⟨N, hN⟩ : ∃ N, N = hp.objs.size := ⟨_, rfl⟩
    have lN : hp.objs.size ≤ N + 1 := by rw [hN]; exact Nat.le_succ _
    have h0 : H1 (N + 1) = none := I1.hok.fresh lN
    have q0 := qq (N + 1) h0
    have kp : ∀ b o, hp.get? b = some o → ((hp.push (PySem.W.kdv_tup us)).push (PySem.HandSPX.excO Cl N)).get? b = some o := fun b o z => Heap.get?_push_of_some _ (Heap.get?_push_of_some _ z)
    have gN : ((hp.push (PySem.W.kdv_tup us)).push (PySem.HandSPX.excO Cl N)).get? (N + 1) = some (PySem.HandSPX.excO Cl N) := by rw [hN]; heap_get
    have J2 : Inv X pins σ (upd H1 (N + 1) (exo (N + 1) Cl none)) ⟨(hp.push (PySem.W.kdv_tup us)).push (PySem.HandSPX.excO Cl N), gs, dr, tk, os⟩ := I1.laid (t' := tk) kp lN (exo_ok gN)
    have rV : Vals (V.ref (N + 1) :: (vs ++ dfv)) (Value.ref (N + 1) :: (us ++ dfl)) := .cons rfl (r1.append vls)
    have ll : (Value.ref (N + 1) :: us ++ dfl).length = prs.length := (FF.len _ _ _ _ q0).symm.trans rV.length |>.symm
    have lus : us.length ≤ sizeLine := Nat.le_trans (Nat.le_of_eq (Paired.length r1).symm) (by rw [sizeLine_eq]; omega)
    subst hN
    refine wpAny_call (PySem.HandSPX.call_own F.excBase_ValueError (fun Y => PySem.HandSPX.refsVE_contains Y bm hbm) (I1.kIn _ _ hCl) (PySem.W.looks_findIn I1.kIn hI) (fun self => PySem.W.bind_fn I1.kIn self hT) lus
      (codeAny_mono (FF.run _ X.stack _ _ ⟨Value.ref (hp.objs.size + 1) :: us, []⟩ _ _ _ (fun _ _ _ => False) (room.make Cl us []) (J2.env0.make Cl us []) (bnd _ (Value.ref (hp.objs.size + 1) :: us) J2.kIn ll) rV q0) fun r s' hr => ?_))
    cases r with
    | error er => exact pass pins σ _ _ er s' J2 hr
    | ok fl =>
      cases fl with
      | ret u =>
        obtain ⟨v, H2, o2, b2, un2, k2, rv, ev, d, fs, ea, ed, z1, q3⟩ := hr
        subst ev
        obtain ⟨hp2, gs2, dr2, tk2, os'⟩ := s'
        obtain ⟨t0, GG, JJ, kG, ge, hoe, na⟩ := mk_end0 (d2 := dr2) (t2 := tk2) I1 lN kp un2 k2 o2 b2 ea ed z1
        exact ⟨rv, hp.objs.size + 1, _, _, ⟨GG, gs2, dr2, tk2, os'⟩, _, .ref Cl, some d, rfl, JJ, kG, ge, hoe, ⟨rfl, rfl, fun ws hw => by cases hw; rfl⟩, rfl, rfl, na, rfl, b2, raises_own T.exC T.tyC, q3⟩
      | next => exact hr.elim
      | brk => exact hr.elim
      | cont => exact hr.elim
end
section
variable {ρ ρ1 : List Sv} {D : AEnds} {c f : Str} {te : AE} {y : VS.D}
@[simp ↓] theorem q_sRaise0 : sRaise0 c D ρ = D.xx ⟨c, none⟩ ρ := keep rfl
@[simp ↓] theorem q_sRaise1 : sRaise1 c f te D ρ = te ρ (kRaise1 D c f) D.xx := keep rfl
@[simp ↓] theorem q_kRaise1 : kRaise1 D c f y ρ1 = D.xx ⟨c, some (f, y)⟩ ρ1 := keep rfl
end
/-! ### SlashError.__init__(self, ..) -/
section
variable {X : Cx} {e : Expr} {es : List Expr} {ta : TA} {p1 p2 pos : Pos} {x : Str} {S : Addr}
structure BaseI (K : PySem.W.Frag) (mg : Str → Option Value) (x : Str) : Prop where
  ex : ∃ S, mg x = some (.ref S) ∧ PySem.W.specialIn K (.ref S) "__getattribute__" = some (some (.builtin "type.__getattribute__")) ∧ PySem.W.readsIn K S (.type "type") = true ∧ PySem.W.findCls K (.ref S) (.type "type") "__init__" = some (.val (.builtin "ValueError.__init__"))
theorem pe_slinit {pl : Sem Bool} (B : BaseI X.K X.mg x) (hg : Gl X x) (ha : PA X (e :: es) ta) (hdb : (x == ("__debug__" : Str)) = false := by decide)
    (hc : eval (.Call (.Attribute (.Name x p1) "__init__" p2) (e :: es) [] pos) X.env = (do
      let ov ← eval (.Name x p1) X.env
      standAt p2.atName
      let (f, first) ← holding [ov] (getMethod ov "__init__" pl)
      callWith pos f first (backTo pos (starEach (e :: es) X.env)) (backToKw pos (keywordEach [] X.env))) := by rfl)
    (he : starEach (e :: es) X.env = (false, eval e X.env) :: starEach es X.env := by rfl) (hpl : (backTo pos (starEach es X.env)).any (·.1) = false := by rfl) :
    PE X (.Call (.Attribute (.Name x p1) "__init__" p2) (e :: es) [] pos) (tVeI X.K ta) := by
  obtain ⟨S, hm, h1, h2, h3⟩ := B.ex
  refine ⟨fun pins s σ H Q I h => ?_⟩
  refine PySem.W.methodCall_KW (ld_glob I hg hm ?_ hdb) hc
  refine PySem.W.method_cls I.kIn h1 (PySem.W.cls_value I.kIn h2 h3 (by decide +kernel) ?_)
  show wpAny _ _ (callWith pos (Value.builtin "ValueError.__init__") [] (backTo pos (starEach (e :: es) X.env)) []) _ _ _
  refine PyProof.Rows.callWith_method1 (thn (ha.run pos pins _ σ H _ (I.tok _) h) fun us s1 ⟨vs, H1, I1, r1, a, C, ws, ev, hl, T, ea, q⟩ => ?_) he hpl
  subst ev
  cases r1 with
  | @cons _ u0 _ ur ra rw' =>
    obtain rfl : u0 = Value.ref a := ra
    have hlen : ur.length ≤ sizeLine := by
      rw [← Paired.length rw', sizeLine_eq]
      omega
    exact oinit_ok T I1 ea hlen fun s' J => ⟨.non, H1, J, rfl, q⟩
end
/-! ### fields of exceptions -/
def XfOk (K : PySem.W.Frag) (c f : Str) : Prop := ∀ C, PySem.W.nsIn K mainGlobals c = some (some (.ref C)) → XfC K C ∧ PySem.W.findIn K (.ref C) f = some none
theorem pe_xfV {X : Cx} {e : Expr} {te : TE} {pos : Pos} {n : Str} (he : PE X e te) (hb : attributeBase e n X.env (eval e X.env) = eval e X.env := by rfl) :
    PE X (.Attribute e n pos) (fun σ H Q => te σ H fun x H1 => ∃ a C oe dd v, x = .ref a ∧ H1 a = some (xo a oe) ∧ oe.cls = .ref C ∧ (∃ vs, oe.data = .fields vs) ∧ oe.dict = some dd ∧ XfC X.K C ∧ PySem.W.findIn X.K (.ref C) n = some none ∧ H1 dd = some (.xd [(n, v)]) ∧ Q v H1) := by
  refine ⟨fun pins s σ H Q I h => ?_⟩
  refine attr_of hb (thn (he.run pins s σ H _ I h) fun u s1 hh => ?_)
  obtain ⟨x, H1, I1, rx, a, C, oe, dd, v, ex, ea, ec, ⟨vs, hd⟩, ed, T, hno, ex', q⟩ := hh
  subst ex
  obtain rfl : u = Value.ref a := rx
  have ha := xo_at I1.hok ea
  have hx : ObjOk X.prog X.w H1 s1.heap dd (.xd [(n, v)]) := I1.hok dd _ ex'
  obtain ⟨mA, hns, hr⟩ := hx
  obtain ⟨od, ho, hl⟩ := lookIn_ns hns
  have l : ([(n, v)] : List (Str × V)).lookup n = some v := by simp [List.lookup]
  obtain ⟨u, hu, ru⟩ := RelO.some_of (v := v) (o := mA n) (by rw [← l]; exact hr n)
  have J : PySem.W.InstAt s1.heap a oe C (some od) := ⟨ha, ec, by unfold PySem.W.notCls; rw [hd] <;> rfl, by rw [ed]; exact ho⟩
  exact HandSPX.exc_get I1.kIn J T.ga T.gg T.exC (PySem.W.findObj_own T.hdC hno rfl (by rw [hl, hu])) (handed_of ru) ⟨v, H1, I1.tok _, ru, q⟩
section
variable {X : Cx} {W : WX} {e : Expr} {ta : AE} {va : AV} {c f : Str} {pos : Pos}
def kXfld (Q : KD) (c f : Str) : KD := fun d ρ1 => match d with
  | .obj c' ns xs => c' = c ∧ ∃ y, ns = (["!", f] : List Str) ∧ xs = [.non, y] ∧ Q y ρ1
  | _ => False
def aXfld (c f : Str) (ta : AE) : AE := fun ρ Q Z => ta ρ (kXfld Q c f) Z
theorem e_xfld (ok : XfOk X.K c f) (he : EX X W e ta) (hb : attributeBase e f X.env (eval e X.env) = eval e X.env := by rfl) : EX X W (.Attribute e f pos) (aXfld c f ta) := by
  obtain ⟨T, p, r⟩ := he.ex
  refine ⟨_, pe_xfV p hb, fun P G F ρ σ H Q Z Q' R h hz hq => ?_⟩
  refine r P G F ρ σ H _ Z _ R h hz fun G1 ρ1 H1 v d R1 s1 rv q => ?_
  cases d with
  | obj c' ns xs =>
    obtain ⟨rfl, y, rfl, rfl, q⟩ := q
    obtain ⟨C, a, vs, g0, rfl, g2, g3, ⟨z, _⟩ | ⟨_, oe, k1, k2, k3, k4⟩⟩ := rp_objA.mp rv
    · rw [isX_bang2] at z; cases z
    obtain ⟨m1, m2⟩ := ok C g0
    obtain ⟨v1, v2, rfl, r1, r2⟩ := rpl2 g3
    obtain ⟨dx, n1, n2⟩ := k4
    exact ⟨a, C, oe, dx, v2, rfl, R1.sg _ _ k1, k2, k3, n1, m1, m2, R1.sg _ _ n2, hq G1 ρ1 H1 v2 y R1 s1 r2 q⟩
  | _ => exact q.elim
end
section
variable {ρ ρ1 : List Sv} {Q : KD} {Z : KX} {ta : AE} {c f g : Str} {y : D}
@[simp ↓] theorem q_aXfld : aXfld c f ta ρ Q Z = ta ρ (kXfld Q c f) Z := keep rfl
@[simp ↓] theorem q_kXfld : kXfld Q c f (excD ⟨c, some (f, y)⟩) ρ = Q y ρ := propext ⟨fun ⟨_, z, _, e, h⟩ => by
    have : y = z := by simpa using e
    rw [this]; exact h, fun h => ⟨rfl, y, rfl, rfl, h⟩⟩
end
/-! ### isinstance of exceptions -/
def KitE (K : PySem.W.Frag) (cv : Value) (cl : List (Str × Bool)) : Prop := ∀ n b, cl.lookup n = some b → ∀ C, PySem.W.nsIn K mainGlobals n = some (some (.ref C)) → ExcC K C ∧ PySem.W.kitOne K (.ref C) cv = some b
theorem call_isX {X : Cx} : CallR X (.builtin "isinstance") (fun xs H Q => ∃ a oe C c cv b, xs = [.ref a, c] ∧ H a = some (xo a oe) ∧ oe.cls = .ref C ∧ (∃ fv, oe.data = .fields fv) ∧ (oe.dict = none ∨ ∃ dx fs, oe.dict = some dx ∧ H dx = some (.xd fs)) ∧ ExcC X.K C ∧ (∀ u, RelV c u → u = cv) ∧ PySem.W.kitOne X.K (.ref C) cv = some b ∧ Q (.bl b) H) := by
  intro pins s σ H xs us Q I r h
  obtain ⟨a, oe, C, c, cv, b, rfl, ha, hcls, ⟨fv, hv⟩, hdct, T, hcv, e, q⟩ := h
  cases r with
  | cons rx rr =>
    cases rr with
    | cons rt rr =>
      cases rr
      cases rx
      have ec := hcv _ rt
      subst ec
      have hget := xo_at I.hok ha
      have nc : PySem.W.notCls oe = true := by unfold PySem.W.notCls; rw [hv] <;> rfl
      have hcl : (PySem.W.clsIn X.K C).isSome = true := by obtain ⟨cd, hc, _⟩ := PySem.W.any_some T.hd; rw [hc]; rfl
      have go : ∀ od, PySem.W.InstAt s.heap a oe C od → wpAny (model X.prog X.w) X.A (call (.builtin "isinstance") [.ref a, _]) (EP X pins σ Q) X.xe s := fun od J =>
        PySem.W.kia_one (PySem.W.kitx_exc (ox := oe) (od := od) hcl T.hg T.hk T.hs T.ha T.hn T.ht T.hm) I.kIn J e (fun z => nomatch z) fun tk => ⟨.bl b, H, I.kept (t' := tk) fun _ _ z => z, rfl, q⟩
      rcases hdct with hn | ⟨dx, fs, hn, hx⟩
      · exact go none ⟨hget, hcls, nc, by rw [hn]; trivial⟩
      · have ox : ObjOk X.prog X.w H s.heap dx (.xd fs) := I.hok dx _ hx
        obtain ⟨mA, ⟨o, es, ep, ho, _⟩, _⟩ := ox
        exact go (some o) ⟨hget, hcls, nc, by rw [hn]; exact ho⟩
section
variable {X : Cx} {a : Expr} {va : AV} {cl : List (Str × Bool)} {cv : Value} {cV : V} {p pos : Pos} {b : Expr}
def kIsE (Q : D → Prop) (cl : List (Str × Bool)) : D → Prop := fun d => match d with
  | .obj c ns _ => (ns = (["!"] : List Str) ∨ ∃ f : Str, ns = (["!", f] : List Str)) ∧ ∃ b, cl.lookup c = some b ∧ Q (.bl b)
  | _ => False
def vIsE (cl : List (Str × Bool)) (va : AV) : AV := fun ρ Q => va ρ (kIsE Q cl)
theorem v_isE (kit : KitE X.K cv cl) (hcv : ∀ u, RelV cV u → u = cv) (hg : Gl X "isinstance") (hm : X.mg "isinstance" = none) (ea : VW X a va) (pT : PE X b (tC cV))
    (he : starEach [a, b] X.env = (false, eval a X.env) :: starEach [b] X.env := by rfl) (hst : starEach [b] X.env = (false, eval b X.env) :: starEach [] X.env := by rfl) (hpl : (backTo pos (starEach [b] X.env)).any (·.1) = false := by rfl) : VW X (.Call (.Name "isinstance" p) [a, b] [] pos) (vIsE cl va) := by
  obtain ⟨Ta, pa, ra⟩ := ea.ex
  refine ⟨_, pe_callB call_isX hg hm (by decide +kernel) (pa_cons pa (pa_cons pT pa_nil hst) he) (by decide) (by decide) he hpl, fun P G F ρ σ H Q Q' R h hq => ?_⟩
  refine ra P G F ρ σ H _ _ R h fun G1 H1 v d R1 s1 k1 rv q => ?_
  cases d with
  | obj c ns xs =>
    obtain ⟨hns, bo, hl, q⟩ := q
    obtain ⟨C, l, vs, g0, rfl, g2, g3, g4⟩ := rp_objA.mp rv
    obtain ⟨T, hk⟩ := kit c bo hl C g0
    have hx : isX ns = true := by
      rcases hns with rfl | ⟨f, rfl⟩
      · exact isX_bang
      · exact isX_bang2
    rcases g4 with ⟨z, _⟩ | ⟨_, oe, m1, m2, m3, m4⟩
    · rw [hx] at z; cases z
    refine ⟨l, oe, C, cV, cv, bo, rfl, m1, m2, m3, ?_, T, hcv, hk, hq G1 H1 _ _ R1 s1 k1 (rp_b _) q⟩
    rcases hns with rfl | ⟨f, rfl⟩
    · exact .inl m4
    · right
      cases vs with
      | nil => exact (show False from m4).elim
      | cons v0 vs =>
        cases vs with
        | nil => have := g3.length; rw [← g2] at this; simp at this
        | cons v1 vs =>
          obtain ⟨dx, n1, n2⟩ := m4
          exact ⟨dx, _, n1, n2⟩
  | _ => exact q.elim
end
section
variable {ρ : List Sv} {Q : D → Prop} {va : AV} {cl : List (Str × Bool)} {c f : Str} {y : D}
@[simp ↓] theorem q_vIsE : vIsE cl va ρ Q = va ρ (kIsE Q cl) := keep rfl
theorem q_kIsE {x : Exc} {b : Bool} (h : cl.lookup x.c = some b) : kIsE Q cl (excD x) = Q (.bl b) := by
  obtain ⟨c, fld⟩ := x
  cases fld with
  | none => exact propext ⟨fun ⟨_, b', e, q⟩ => by rw [h] at e; cases e; exact q, fun q => ⟨.inl rfl, b, h, q⟩⟩
  | some p =>
    obtain ⟨f, y⟩ := p
    exact propext ⟨fun ⟨_, b', e, q⟩ => by rw [h] at e; cases e; exact q, fun q => ⟨.inr ⟨f, rfl⟩, b, h, q⟩⟩
end
end VS
/-! VSy: exceptions by the names of their classes. -/
namespace VS
open PySem PySem.Spec PyProof.Rows L2
theorem Run.tr {X : Cx} {k : Nat} {pn : List (Addr × Obj)} {xe : Value → Shared → Prop} (r : Run k X) : Run k (X.tr pn xe) := ⟨r.hr, r.hg, r.hs⟩
theorem catch_nil {K : PySem.W.Frag} {c : Value} : CatchC K c [] := fun _ _ e => by cases e
theorem catch_cons {K : PySem.W.Frag} {c : Value} {n : Str} {b : Bool} {l : List (Str × Bool)} (h : ∀ C, PySem.W.nsIn K mainGlobals n = some (some (.ref C)) → PySem.W.exmOne K (.ref C) c = some b) (t : CatchC K c l) : CatchC K c ((n, b) :: l) := fun m d e => by
  rw [List.lookup_cons] at e
  split at e
  · rename_i z
    have := beq_iff_eq.mp z
    subst this
    cases e
    exact h
  · exact t m d e
theorem kit_nil {K : PySem.W.Frag} {c : Value} : KitE K c [] := fun _ _ e => by cases e
theorem kit_cons {K : PySem.W.Frag} {c : Value} {n : Str} {b : Bool} {l : List (Str × Bool)} (h : ∀ C, PySem.W.nsIn K mainGlobals n = some (some (.ref C)) → ExcC K C ∧ PySem.W.kitOne K (.ref C) c = some b) (t : KitE K c l) : KitE K c ((n, b) :: l) := fun m d e => by
  rw [List.lookup_cons] at e
  split at e
  · rename_i z
    have := beq_iff_eq.mp z
    subst this
    cases e
    exact h
  · exact t m d e
/-- the class x of the module, as an except clause names it -/
def HndC (K : PySem.W.Frag) (mg : Str → Option Value) (x : Str) (cl : List (Str × Bool)) : Prop := ∃ C, mg x = some (.ref C) ∧ CatchC K (.ref C) cl
def IsiC (K : PySem.W.Frag) (mg : Str → Option Value) (x : Str) (cl : List (Str × Bool)) : Prop := ∃ C, mg x = some (.ref C) ∧ KitE K (.ref C) cl
section
variable {X : Cx} {W : WX} {x n : Str} {i : Nat} {body suite : List Stmt} {b₀ : Stmt} {np pos pos' : Pos} {tb ts : AS} {cl : List (Str × Bool)}
theorem s_try (hN : X.N.Nodup) (h : HndC X.K X.mg x cl) (tk : L2N.Takes X W) (hg : Gl X x)
    (hb : ∀ (W' : WX) (pn : List (Addr × Obj)) (xe : Value → Shared → Prop), L2N.Takes (X.tr pn xe) W' → PassesOwn (model X.prog X.w) X.A X.env xe → SXs (X.tr pn xe) W' body tb)
    (hsu : ∀ (a : Addr) (pn : List (Addr × Obj)), SXs (X.suite a pn) noW (b₀ :: suite) ts)
    (hi : X.N[i]? = some n := by rfl) (hln : X.env.kindOf n = some .local := by rfl) (hex : X.ex = [] := by rfl) (hs : X.stack = X.env :: X.outer := by rfl) (hf : X.env.frame = some X.env.locals := by rfl) (hdb : (x == ("__debug__" : Str)) = false := by decide) :
    SX X W (.Try body [.ExceptHandler (some (.Name x np)) (some n) (b₀ :: suite) pos'] [] [] pos) (sTryAs i cl tb ts) := by
  obtain ⟨C, hm, hc⟩ := h
  exact s_try_as hN ⟨hg, hdb, .inl hm⟩ tk hc hb hsu hi hln hex hs hf
end
section
variable {X : Cx} {a : Expr} {va : AV} {cl : List (Str × Bool)} {p q pos : Pos} {y : Str}
theorem v_isX (h : IsiC X.K X.mg y cl) (gY : Gl X y) (hg : Gl X "isinstance") (hm : X.mg "isinstance" = none) (ea : VW X a va) (hd : (y == ("__debug__" : Str)) = false := by decide)
    (he : starEach [a, .Name y q] X.env = (false, eval a X.env) :: starEach [.Name y q] X.env := by rfl) (hst : starEach [.Name y q] X.env = (false, eval (.Name y q) X.env) :: starEach [] X.env := by rfl) (hpl : (backTo pos (starEach [.Name y q] X.env)).any (·.1) = false := by rfl) : VW X (.Call (.Name "isinstance" p) [a, .Name y q] [] pos) (vIsE cl va) := by
  obtain ⟨C, h1, h2⟩ := h
  exact v_isE (cV := .ref C) h2 (fun u r => r) hg hm ea (pe_glob gY h1 (show RelV (.ref C) (.ref C) from rfl) hd) he hst hpl
theorem v_isXB {T : String} (h : KitE X.K (.type T) cl) (gY : Gl X y) (mY : X.mg y = none) (bY : bootBuiltins y = some (.type T)) (hg : Gl X "isinstance") (hm : X.mg "isinstance" = none) (ea : VW X a va) (nT : y ≠ "__name__" := by decide) (dT : (y == ("__debug__" : Str)) = false := by decide)
    (he : starEach [a, .Name y q] X.env = (false, eval a X.env) :: starEach [.Name y q] X.env := by rfl) (hst : starEach [.Name y q] X.env = (false, eval (.Name y q) X.env) :: starEach [] X.env := by rfl) (hpl : (backTo pos (starEach [.Name y q] X.env)).any (·.1) = false := by rfl) : VW X (.Call (.Name "isinstance" p) [a, .Name y q] [] pos) (vIsE cl va) :=
  v_isE (cV := .ty T) h (fun u r => r) hg hm ea (pe_bltn gY mY bY rfl nT dT) he hst hpl
end
end VS
/-! VSz: the exception classes of the module. -/
namespace VS
open PySem PySem.Spec PyProof.Rows L2
/-- an exception class of the module -/
structure EC (K : PySem.W.Frag) (n : Str) (C : Addr) : Prop where
  a : PySem.W.nsIn K mainGlobals n = some (some (.ref C))
  b : PySem.W.subIn K (.ref C) (.type "BaseException") = some true
  v : PySem.W.subIn K (.ref C) (.type "ValueError") = some true
  s : PySem.W.subIn K (.ref C) (.ref C) = some true
  t : PySem.W.typeIn K (.ref C) = some (.type "type")
  h : PySem.W.hasDictIn K C = true
  k : PySem.W.keepIn K (.ref C) = true
  g : PySem.W.findIn K (.ref C) "__getattribute__" = some (some (.builtin "BaseException.__getattribute__"))
  r : PySem.W.findIn K (.ref C) "__getattr__" = some none
  c : PySem.W.findIn K (.ref C) "__class__" = some (some (.builtin "object.__class__"))
  o : PySem.W.mroIn K C (.type "object") = some true
structure ECs (K : PySem.W.Frag) : Prop where
  n : PySem.W.specialIn K (.builtin "object.__class__") "__get__" = some (some (.builtin "getset_descriptor.__get__"))
  t : PySem.W.takesIn K (.builtin "object.__class__") = some true
section
variable {K : PySem.W.Frag} {n m : Str} {C D : Addr} {b : Bool}
theorem cat_ec (e : EC K n C) (d : EC K m D) (s : PySem.W.subIn K (.ref C) (.ref D) = some b) : ∀ C', PySem.W.nsIn K mainGlobals n = some (some (.ref C')) → PySem.W.exmOne K (.ref C') (.ref D) = some b := fun C' q => by
  rw [e.a] at q
  cases q
  exact PySem.W.exm_ref d.b d.h d.t s
theorem EC.exc (e : EC K n C) (x : ECs K) : ExcC K C := ⟨e.g, e.r, e.b, e.h, e.c, x.n, x.t, e.o⟩
theorem kit_ec (x : ECs K) (e : EC K n C) (d : EC K m D) (s : PySem.W.subIn K (.ref C) (.ref D) = some b) : ∀ C', PySem.W.nsIn K mainGlobals n = some (some (.ref C')) → ExcC K C' ∧ PySem.W.kitOne K (.ref C') (.ref D) = some b := fun C' q => by
  rw [e.a] at q
  cases q
  refine ⟨e.exc x, ?_⟩
  unfold PySem.W.kitOne
  split
  · rename_i z
    have z' := beq_iff_eq.mp z
    rw [z', d.s] at s
    exact s
  · obtain ⟨cd, hc, _⟩ := PySem.W.any_some d.h
    have e2 : ((PySem.W.clsIn K D).isSome && PySem.W.typeIn K (.ref D) == some (.type "type")) = true := by rw [hc, d.t] <;> rfl
    show (if ((PySem.W.clsIn K D).isSome && PySem.W.typeIn K (.ref D) == some (.type "type")) = true then PySem.W.subIn K (.ref C) (.ref D) else none) = some b
    rw [if_pos e2]
    exact s
theorem kit_ve (x : ECs K) (e : EC K n C) : ∀ C', PySem.W.nsIn K mainGlobals n = some (some (.ref C')) → ExcC K C' ∧ PySem.W.kitOne K (.ref C') (.type "ValueError") = some true := fun C' q => by
  rw [e.a] at q
  cases q
  refine ⟨e.exc x, ?_⟩
  unfold PySem.W.kitOne
  rw [if_neg (show ¬ ((Value.ref C == Value.type "ValueError") = true) from by simp)]
  show (if PySem.W.kitMeta "ValueError" = true then PySem.W.subIn K (.ref C) (.type "ValueError") else none) = some true
  rw [if_pos (by decide +kernel)]
  exact e.v
theorem rai_ec {mg : Str → Option Value} (e : EC K n C) (hm : mg n = some (.ref C)) (x : PySem.W.excIn K C [.type "ValueError", .type "Exception", .type "BaseException", .type "object"] "ValueError.__new__" = true) : RaiC K mg n := ⟨C, e.a, hm, x, e.k, e.b, e.t⟩
theorem xf_ec {f : Str} (e : EC K n C) (h : PySem.W.findIn K (.ref C) f = some none) : XfOk K n f := fun C' q => by
  rw [e.a] at q
  cases q
  exact ⟨⟨e.g, e.r, e.b, e.h⟩, h⟩
end
def cl_SlashError : List (Str × Bool) := [("SlashError", true), ("NotEscaped", true), ("TooLong", true), ("Contradiction", true), ("ParseError", true), ("InvalidText", true), ("InvalidSymbols", true), ("InvalidPosition", true), ("InvalidNumber", true), ("InvalidHistory", true), ("InvalidScript", true), ("InvalidFacts", true), ("NoMove", true), ("NothingToUndo", true), ("InvalidCommand", true)]
def cl_NotEscaped : List (Str × Bool) := [("SlashError", false), ("NotEscaped", true), ("TooLong", false), ("Contradiction", false), ("ParseError", false), ("InvalidText", false), ("InvalidSymbols", false), ("InvalidPosition", false), ("InvalidNumber", false), ("InvalidHistory", false), ("InvalidScript", false), ("InvalidFacts", false), ("NoMove", false), ("NothingToUndo", false), ("InvalidCommand", false)]
def cl_TooLong : List (Str × Bool) := [("SlashError", false), ("NotEscaped", false), ("TooLong", true), ("Contradiction", false), ("ParseError", false), ("InvalidText", false), ("InvalidSymbols", false), ("InvalidPosition", false), ("InvalidNumber", false), ("InvalidHistory", false), ("InvalidScript", false), ("InvalidFacts", false), ("NoMove", false), ("NothingToUndo", false), ("InvalidCommand", false)]
def cl_Contradiction : List (Str × Bool) := [("SlashError", false), ("NotEscaped", false), ("TooLong", false), ("Contradiction", true), ("ParseError", false), ("InvalidText", false), ("InvalidSymbols", false), ("InvalidPosition", false), ("InvalidNumber", false), ("InvalidHistory", false), ("InvalidScript", false), ("InvalidFacts", false), ("NoMove", false), ("NothingToUndo", false), ("InvalidCommand", false)]
def cl_ParseError : List (Str × Bool) := [("SlashError", false), ("NotEscaped", false), ("TooLong", false), ("Contradiction", false), ("ParseError", true), ("InvalidText", false), ("InvalidSymbols", false), ("InvalidPosition", false), ("InvalidNumber", false), ("InvalidHistory", false), ("InvalidScript", false), ("InvalidFacts", false), ("NoMove", false), ("NothingToUndo", false), ("InvalidCommand", false)]
def cl_InvalidText : List (Str × Bool) := [("SlashError", false), ("NotEscaped", false), ("TooLong", false), ("Contradiction", false), ("ParseError", false), ("InvalidText", true), ("InvalidSymbols", false), ("InvalidPosition", false), ("InvalidNumber", false), ("InvalidHistory", false), ("InvalidScript", false), ("InvalidFacts", false), ("NoMove", false), ("NothingToUndo", false), ("InvalidCommand", false)]
def cl_InvalidSymbols : List (Str × Bool) := [("SlashError", false), ("NotEscaped", false), ("TooLong", false), ("Contradiction", false), ("ParseError", false), ("InvalidText", false), ("InvalidSymbols", true), ("InvalidPosition", false), ("InvalidNumber", false), ("InvalidHistory", false), ("InvalidScript", false), ("InvalidFacts", false), ("NoMove", false), ("NothingToUndo", false), ("InvalidCommand", false)]
def cl_InvalidPosition : List (Str × Bool) := [("SlashError", false), ("NotEscaped", false), ("TooLong", false), ("Contradiction", false), ("ParseError", false), ("InvalidText", false), ("InvalidSymbols", false), ("InvalidPosition", true), ("InvalidNumber", false), ("InvalidHistory", false), ("InvalidScript", false), ("InvalidFacts", false), ("NoMove", false), ("NothingToUndo", false), ("InvalidCommand", false)]
def cl_InvalidNumber : List (Str × Bool) := [("SlashError", false), ("NotEscaped", false), ("TooLong", false), ("Contradiction", false), ("ParseError", false), ("InvalidText", false), ("InvalidSymbols", false), ("InvalidPosition", false), ("InvalidNumber", true), ("InvalidHistory", false), ("InvalidScript", false), ("InvalidFacts", false), ("NoMove", false), ("NothingToUndo", false), ("InvalidCommand", false)]
def cl_InvalidHistory : List (Str × Bool) := [("SlashError", false), ("NotEscaped", false), ("TooLong", false), ("Contradiction", false), ("ParseError", false), ("InvalidText", false), ("InvalidSymbols", false), ("InvalidPosition", false), ("InvalidNumber", false), ("InvalidHistory", true), ("InvalidScript", false), ("InvalidFacts", false), ("NoMove", false), ("NothingToUndo", false), ("InvalidCommand", false)]
def cl_InvalidScript : List (Str × Bool) := [("SlashError", false), ("NotEscaped", false), ("TooLong", false), ("Contradiction", false), ("ParseError", false), ("InvalidText", false), ("InvalidSymbols", false), ("InvalidPosition", false), ("InvalidNumber", false), ("InvalidHistory", false), ("InvalidScript", true), ("InvalidFacts", false), ("NoMove", false), ("NothingToUndo", false), ("InvalidCommand", false)]
def cl_InvalidFacts : List (Str × Bool) := [("SlashError", false), ("NotEscaped", false), ("TooLong", false), ("Contradiction", false), ("ParseError", false), ("InvalidText", false), ("InvalidSymbols", false), ("InvalidPosition", false), ("InvalidNumber", false), ("InvalidHistory", false), ("InvalidScript", false), ("InvalidFacts", true), ("NoMove", false), ("NothingToUndo", false), ("InvalidCommand", false)]
def cl_NoMove : List (Str × Bool) := [("SlashError", false), ("NotEscaped", false), ("TooLong", false), ("Contradiction", false), ("ParseError", false), ("InvalidText", false), ("InvalidSymbols", false), ("InvalidPosition", false), ("InvalidNumber", false), ("InvalidHistory", false), ("InvalidScript", false), ("InvalidFacts", false), ("NoMove", true), ("NothingToUndo", false), ("InvalidCommand", false)]
def cl_NothingToUndo : List (Str × Bool) := [("SlashError", false), ("NotEscaped", false), ("TooLong", false), ("Contradiction", false), ("ParseError", false), ("InvalidText", false), ("InvalidSymbols", false), ("InvalidPosition", false), ("InvalidNumber", false), ("InvalidHistory", false), ("InvalidScript", false), ("InvalidFacts", false), ("NoMove", false), ("NothingToUndo", true), ("InvalidCommand", false)]
def cl_InvalidCommand : List (Str × Bool) := [("SlashError", false), ("NotEscaped", false), ("TooLong", false), ("Contradiction", false), ("ParseError", false), ("InvalidText", false), ("InvalidSymbols", false), ("InvalidPosition", false), ("InvalidNumber", false), ("InvalidHistory", false), ("InvalidScript", false), ("InvalidFacts", false), ("NoMove", false), ("NothingToUndo", false), ("InvalidCommand", true)]
def cl_ValueError : List (Str × Bool) := [("SlashError", true), ("NotEscaped", true), ("TooLong", true), ("Contradiction", true), ("ParseError", true), ("InvalidText", true), ("InvalidSymbols", true), ("InvalidPosition", true), ("InvalidNumber", true), ("InvalidHistory", true), ("InvalidScript", true), ("InvalidFacts", true), ("NoMove", true), ("NothingToUndo", true), ("InvalidCommand", true)]
/-! ### x.extend(own list), x.bit_length() -/
section
variable {X : Cx} {W : WX} {e : Expr} {to : AO} {te : AE} {pos : Pos}
def kExtO (E : AEnds) (i : Nat) : List D → List Sv → Prop := fun xs ρ1 => match ρ1[i]? with
  | some (.own b ys) => ys.length + xs.length ≤ sizeLine ∧ E.nx (ρ1.set i (.own b (ys ++ xs)))
  | _ => False
def sExtO (i : Nat) (to : AO) : AS := fun D ρ => isOwn ρ i ∧ to ρ (kExtO D i) D.xx
end
section
variable {ρ ρ1 : List Sv} {D : AEnds} {E : AEnds} {i : Nat} {to : AO} {ta : AE} {Q : KD} {Z : KX} {xs : List VS.D} {j : Int}
@[simp ↓] theorem q_sExtO : sExtO i to D ρ = (isOwn ρ i ∧ to ρ (kExtO D i) D.xx) := keep rfl
@[simp ↓] theorem q_kExtO : kExtO E i xs ρ1 = (match ρ1[i]? with
  | some (.own b ys) => ys.length + xs.length ≤ sizeLine ∧ E.nx (ρ1.set i (.own b (ys ++ xs)))
  | _ => False) := keep rfl
end
end VS
/-! VSA: min(xs, default=d) of a list of ints. -/
namespace VS
open PySem PySem.Spec PyProof.Rows L2
section
variable {X : Cx} {W : WX} {a b : Expr} {ta tb : AE} {p pos kp : Pos}
def minOr : List Int → D → D
  | [], d => d
  | n :: ns, _ => .int (ns.foldl min n)
def kMinD2 (Q : KD) (x : D) : KD := fun d ρ2 => match x with
  | .lst xs => ∃ ns, intsOf xs = some ns ∧ Q (minOr ns d) ρ2
  | _ => False
def kMinD1 (Q : KD) (Z : KX) (tb : AE) : KD := fun x ρ1 => tb ρ1 (kMinD2 Q x) Z
def aMinD (ta tb : AE) : AE := fun ρ Q Z => ta ρ (kMinD1 Q Z tb) Z
end
section
variable {ρ ρ1 : List Sv} {Q : KD} {Z : KX} {ta tb : AE} {x d : D} {xs : List D}
@[simp ↓] theorem q_aMinD : aMinD ta tb ρ Q Z = ta ρ (kMinD1 Q Z tb) Z := keep rfl
@[simp ↓] theorem q_kMinD1 : kMinD1 Q Z tb x ρ1 = tb ρ1 (kMinD2 Q x) Z := keep rfl
@[simp ↓] theorem q_kMinD2 : kMinD2 Q (.lst xs) d ρ1 = (∃ ns, intsOf xs = some ns ∧ Q (minOr ns d) ρ1) := keep rfl
end
def bMin1 : List D → (D → Prop) → Prop
  | [.lst xs], Q => ∃ ns, intsOf xs = some ns ∧ ns ≠ [] ∧ Q (minOr ns .non)
  | _, _ => False
@[simp ↓] theorem q_bMin1 {xs : List D} {Q : D → Prop} : bMin1 [.lst xs] Q = (∃ ns, intsOf xs = some ns ∧ ns ≠ [] ∧ Q (minOr ns .non)) := keep rfl
end VS
/-! VSB: functions in a list, called by index; list(range(..)); texts: str(i), split, index, upper; range downwards; pop. -/
namespace VS
open PySem PySem.Spec PyProof.Rows L2
/-! ### [f, g][i](..) -/
section
variable {X : Cx} {W : WX} {pos p1 p2 : Pos} {a ix : Expr} {es fes : List Expr} {u : AAr} {ti : AE} {n k : Nat}
def kPick1 (Q : KD) (Z : KX) (cs : List Ctr) (u : AAr) : KD := fun d ρ1 => match d with
  | .int i => ∃ c, atI cs i = some c ∧ aDef c [] u ρ1 Q Z
  | _ => False
def aPick (cs : List Ctr) (ti : AE) (u : AAr) : AE := fun ρ Q Z => ti ρ (kPick1 Q Z cs u) Z
end
section
variable {ρ ρ1 : List Sv} {Q : KD} {Z : KX} {cs : List Ctr} {u : AAr} {ti : AE} {i : Int}
@[simp ↓] theorem q_aPick : aPick cs ti u ρ Q Z = ti ρ (kPick1 Q Z cs u) Z := keep rfl
@[simp ↓] theorem q_kPick1 : kPick1 Q Z cs u (.int i) ρ1 = (∃ c, atI cs i = some c ∧ aDef c [] u ρ1 Q Z) := keep rfl
end
/-! ### list(range(..)) -/
section
variable {X : Cx} {W : WX} {pos p1 : Pos} {a b : Expr} {ta tb : AE}
def kRgL1 (QL : List D → List Sv → Prop) : KD := fun d ρ1 => match d with
  | .int n => RgOk 0 n ∧ QL (rangeD 0 n.toNat) ρ1
  | _ => False
def oRgL1 (ta : AE) : AO := fun ρ Q Z => ta ρ (kRgL1 Q) Z
def kRgL2b (QL : List D → List Sv → Prop) (x : D) : KD := fun d ρ1 => match x, d with
  | .int m, .int n => RgOk m n ∧ QL (rangeD m (n - m).toNat) ρ1
  | _, _ => False
def kRgL2 (QL : List D → List Sv → Prop) (Z : KX) (tb : AE) : KD := fun x ρ1 => tb ρ1 (kRgL2b QL x) Z
def oRgL2 (ta tb : AE) : AO := fun ρ Q Z => ta ρ (kRgL2 Q Z tb) Z
end
section
variable {ρ ρ1 : List Sv} {QL : List D → List Sv → Prop} {Z : KX} {ta tb : AE} {i j : Int}
@[simp ↓] theorem q_oRgL1 : oRgL1 ta ρ QL Z = ta ρ (kRgL1 QL) Z := keep rfl
@[simp ↓] theorem q_kRgL1 : kRgL1 QL (.int i) ρ1 = (RgOk 0 i ∧ QL (rangeD 0 i.toNat) ρ1) := keep rfl
@[simp ↓] theorem q_oRgL2 : oRgL2 ta tb ρ QL Z = ta ρ (kRgL2 QL Z tb) Z := keep rfl
@[simp ↓] theorem q_kRgL2 {x : D} : kRgL2 QL Z tb x ρ1 = tb ρ1 (kRgL2b QL x) Z := keep rfl
@[simp ↓] theorem q_kRgL2b : kRgL2b QL (.int i) (.int j) ρ1 = (RgOk i j ∧ QL (rangeD i (j - i).toNat) ρ1) := keep rfl
end
/-! ### texts -/
section
variable {X : Cx} {W : WX} {pos apos : Pos} {o e : Expr} {ta tb : AE}
def bStrI : List D → (D → Prop) → Prop
  | [.int i], Q => i.natAbs.log2 < 1920 ∧ Q (.str (Str.ofString (toString i)))
  | _, _ => False
/-- x.split(sep), a list of its own -/
def kSplit2 (QL : List D → List Sv → Prop) (x : D) : KD := fun y ρ2 => match x, y with
  | .str a, .str b => (b.length == 0) = false ∧ a.length + 2 ≤ sizeLine ∧ QL ((Txt.split a b).map D.str) ρ2
  | _, _ => False
def kSplit1 (QL : List D → List Sv → Prop) (Z : KX) (tb : AE) : KD := fun x ρ1 => (∃ a, x = .str a) ∧ tb ρ1 (kSplit2 QL x) Z
def oSplit (ta tb : AE) : AO := fun ρ Q Z => ta ρ (kSplit1 Q Z tb) Z
/-- x.index(sign) -/
def kSix2 (Q : KD) (x : D) : KD := fun y ρ2 => match x, y with
  | .str a, .str b => ∃ i rest, Builtin.Str.occurrences a b 0 a.length 1 = i :: rest ∧ Q (.int (i : Nat)) ρ2
  | _, _ => False
def kSix1 (Q : KD) (Z : KX) (tb : AE) : KD := fun x ρ1 => (∃ a, x = .str a) ∧ tb ρ1 (kSix2 Q x) Z
def aSix (ta tb : AE) : AE := fun ρ Q Z => ta ρ (kSix1 Q Z tb) Z
/-- x.upper() -/
def kUpp (Q : KD) : KD := fun x ρ1 => match x with
  | .str a => a.length ≤ 5592405 ∧ Q (.str (Txt.upper a)) ρ1
  | _ => False
def aUpp (ta : AE) : AE := fun ρ Q Z => ta ρ (kUpp Q) Z
end
/-! ### range(i, j, -1) -/
/-! ### x.pop(), x.pop(k), x a list of its own -/
section
variable {X : Cx} {W : WX} {e : Expr} {te : AE}
def aPop (i : Nat) : AE := fun ρ Q _ => match ρ[i]? with
  | some (.own b xs) => ∃ d, xs[xs.length - 1]? = some d ∧ Q d (ρ.set i (.own b xs.dropLast))
  | _ => False
def kPopAt (Q : KD) (i : Nat) : KD := fun k ρ1 => match k, ρ1[i]? with
  | .int k, some (.own b xs) => ∃ j d, ixN xs.length k = some j ∧ -(2 ^ 63) ≤ k ∧ k < 2 ^ 63 ∧ xs[j]? = some d ∧ Q d (ρ1.set i (.own b (xs.eraseIdx j)))
  | _, _ => False
def aPopAt (i : Nat) (te : AE) : AE := fun ρ Q Z => isOwn ρ i ∧ te ρ (kPopAt Q i) Z
end
section
variable {ρ ρ1 : List Sv} {Q : KD} {QL : List D → List Sv → Prop} {QD : D → Prop} {Z : KX} {ta tb : AE} {x y : Str} {i j k : Int} {n : Nat} {aa : AA}
@[simp ↓] theorem q_bStrI : bStrI [.int i] QD = (i.natAbs.log2 < 1920 ∧ QD (.str (Str.ofString (toString i)))) := keep rfl
@[simp ↓] theorem q_oSplit : oSplit ta tb ρ QL Z = ta ρ (kSplit1 QL Z tb) Z := keep rfl
@[simp ↓] theorem q_kSplit1 : kSplit1 QL Z tb (.str x) ρ1 = tb ρ1 (kSplit2 QL (.str x)) Z := propext ⟨fun h => h.2, fun h => ⟨⟨x, rfl⟩, h⟩⟩
@[simp ↓] theorem q_kSplit2 : kSplit2 QL (.str x) (.str y) ρ1 = ((y.length == 0) = false ∧ x.length + 2 ≤ sizeLine ∧ QL ((Txt.split x y).map D.str) ρ1) := keep rfl
@[simp ↓] theorem q_aSix : aSix ta tb ρ Q Z = ta ρ (kSix1 Q Z tb) Z := keep rfl
@[simp ↓] theorem q_kSix1 : kSix1 Q Z tb (.str x) ρ1 = tb ρ1 (kSix2 Q (.str x)) Z := propext ⟨fun h => h.2, fun h => ⟨⟨x, rfl⟩, h⟩⟩
@[simp ↓] theorem q_kSix2 : kSix2 Q (.str x) (.str y) ρ1 = (∃ i rest, Builtin.Str.occurrences x y 0 x.length 1 = i :: rest ∧ Q (.int (i : Nat)) ρ1) := keep rfl
@[simp ↓] theorem q_aUpp : aUpp ta ρ Q Z = ta ρ (kUpp Q) Z := keep rfl
@[simp ↓] theorem q_kUpp : kUpp Q (.str x) ρ1 = (x.length ≤ 5592405 ∧ Q (.str (Txt.upper x)) ρ1) := keep rfl
@[simp ↓] theorem q_aPop : aPop n ρ Q Z = (match ρ[n]? with
  | some (.own b xs) => ∃ d, xs[xs.length - 1]? = some d ∧ Q d (ρ.set n (.own b xs.dropLast))
  | _ => False) := keep rfl
@[simp ↓] theorem q_aPopAt : aPopAt n ta ρ Q Z = (isOwn ρ n ∧ ta ρ (kPopAt Q n) Z) := keep rfl
@[simp ↓] theorem q_kPopAt : kPopAt Q n (.int k) ρ1 = (match ρ1[n]? with
  | some (.own b xs) => ∃ j d, ixN xs.length k = some j ∧ -(2 ^ 63) ≤ k ∧ k < 2 ^ 63 ∧ xs[j]? = some d ∧ Q d (ρ1.set n (.own b (xs.eraseIdx j)))
  | _ => False) := by
  unfold kPopAt
  rcases ρ1[n]? with _ | (_ | _ | ⟨_, _⟩) <;> rfl
end
/-! ### targets within targets -/
/-! ### a tuple of texts that the module keeps -/
end VS
/-! VSC: enumerate(a text). -/
namespace L2
open PySem PySem.Spec PyProof.Rows
end L2
namespace VS
open PySem PySem.Spec PyProof.Rows L2
/-- enumerate(x), x a list or a text -/
def kEnumA (QL : List D → List Sv → Prop) : List D → List Sv → Prop := fun ds ρ1 => match ds with
  | [.lst xs] => QL (enumD xs) ρ1
  | [.str x] => QL (enumD (signsD x)) ρ1
  | _ => False
def iEnumA (t : AA) : AI := fun ρ Q Z => t ρ (kEnumA Q) Z
section
variable {ρ ρ1 : List Sv} {QL : List D → List Sv → Prop} {Z : KX} {aa : AA} {xs : List D} {x : Str}
@[simp ↓] theorem q_iEnumA : iEnumA aa ρ QL Z = aa ρ (kEnumA QL) Z := keep rfl
@[simp ↓] theorem q_kEnumA1 : kEnumA QL [.lst xs] ρ1 = QL (enumD xs) ρ1 := keep rfl
@[simp ↓] theorem q_kEnumA2 : kEnumA QL [.str x] ρ1 = QL (enumD (signsD x)) ρ1 := keep rfl
end
end VS
/-! VSD: any part of a tuple; zip of two tuples. -/
namespace VS
open PySem PySem.Spec PyProof.Rows L2
section
variable {X : Cx} {W : WX} {a : Expr} {pos p2 : Pos}
def kSlA3 (Q : KD) (d : D) (l : Option Int) : Option Int → List Sv → Prop := fun u ρ3 => match d with
  | .str x => x.length ≤ sizeLine ∧ Q (.str (cutS x l u)) ρ3
  | .lst xs => Q (.lst (cutD xs l u)) ρ3
  | .tup xs => Q (.tup (cutD xs l u)) ρ3
  | _ => False
def kSlA2 (Q : KD) (Z : KX) (th : AP) (d : D) : Option Int → List Sv → Prop := fun l ρ2 => th ρ2 (kSlA3 Q d l) Z
def kSlA1 (Q : KD) (Z : KX) (tl th : AP) : KD := fun d ρ1 => tl ρ1 (kSlA2 Q Z th d) Z
def aSlA (te : AE) (tl th : AP) : AE := fun ρ Q Z => te ρ (kSlA1 Q Z tl th) Z
/-- zip of two lists or two tuples -/
def kZipB (QL : List D → List Sv → Prop) : List D → List Sv → Prop := fun ds ρ1 => match ds with
  | [.lst xs, .lst ys] => QL (zipD xs ys) ρ1
  | [.tup xs, .tup ys] => QL (zipD xs ys) ρ1
  | _ => False
def iZipB (t : AA) : AI := fun ρ Q Z => t ρ (kZipB Q) Z
end
section
variable {ρ ρ1 : List Sv} {Q : KD} {QL : List D → List Sv → Prop} {Z : KX} {ta : AE} {tl th : AP} {l u : Option Int} {xs ys : List D} {s : Str} {d : D} {aa : AA}
@[simp ↓] theorem q_aSlA : aSlA ta tl th ρ Q Z = ta ρ (kSlA1 Q Z tl th) Z := keep rfl
@[simp ↓] theorem q_kSlA1 : kSlA1 Q Z tl th d ρ1 = tl ρ1 (kSlA2 Q Z th d) Z := keep rfl
@[simp ↓] theorem q_kSlA2 : kSlA2 Q Z th d l ρ1 = th ρ1 (kSlA3 Q d l) Z := keep rfl
@[simp ↓] theorem q_kSlA3s : kSlA3 Q (.str s) l u ρ1 = (s.length ≤ sizeLine ∧ Q (.str (cutS s l u)) ρ1) := keep rfl
@[simp ↓] theorem q_kSlA3l : kSlA3 Q (.lst xs) l u ρ1 = Q (.lst (cutD xs l u)) ρ1 := keep rfl
@[simp ↓] theorem q_kSlA3t : kSlA3 Q (.tup xs) l u ρ1 = Q (.tup (cutD xs l u)) ρ1 := keep rfl
@[simp ↓] theorem q_iZipB : iZipB aa ρ QL Z = aa ρ (kZipB QL) Z := keep rfl
@[simp ↓] theorem q_kZipB1 : kZipB QL [.lst xs, .lst ys] ρ1 = QL (zipD xs ys) ρ1 := keep rfl
@[simp ↓] theorem q_kZipB2 : kZipB QL [.tup xs, .tup ys] ρ1 = QL (zipD xs ys) ρ1 := keep rfl
end
end VS
/-! VSE: int(text). -/
namespace VS
open PySem PySem.Spec PyProof.Rows L2
def bIntS : List D → (D → Prop) → Prop
  | [.str a], Q => ∃ n, PySem.intText? a = some n ∧ a.length ≤ 640 ∧ Q (.int n)
  | _, _ => False
@[simp ↓] theorem q_bIntS {x : Str} {Q : D → Prop} : bIntS [.str x] Q = (∃ n, PySem.intText? x = some n ∧ x.length ≤ 640 ∧ Q (.int n)) := keep rfl
end VS
/-! VSF: a call whose one argument is a list just made, lent for the call. -/
namespace VS
open PySem PySem.Spec PyProof.Rows L2
theorem snoc_at {α : Type} {l : List α} {x s : α} {i : Nat} (h : (l ++ [x])[i]? = some s) : l[i]? = some s ∨ (i = l.length ∧ s = x) := by
  rw [List.getElem?_append] at h
  split at h
  · exact .inl h
  · rename_i hi
    rw [List.getElem?_singleton] at h
    split at h
    · exact .inr ⟨by omega, (Option.some.inj h).symm⟩
    · cases h
theorem at_snoc {α : Type} {l : List α} {x s : α} {i : Nat} (h : l[i]? = some s) : (l ++ [x])[i]? = some s := by
  rw [List.getElem?_append_left (List.getElem?_eq_some_iff.mp h).1]
  exact h
theorem at_end {α : Type} {l : List α} {x : α} : (l ++ [x])[l.length]? = some x := by simp
section
variable {K : PySem.W.Frag} {P : List (Nat × Addr)} {G F : Hp} {ρ : List Sv} {σ : St} {H : Hp}
theorem Rel.push (R : Rel K P G F ρ σ H) {a : Addr} {us : List V} {xs : List D} (h1 : H a = some (.lst us)) (h2 : G a = none) (h3 : F a = none) (h4 : NoS ρ σ a) (h5 : RpL K G xs us) :
    Rel K P G F (ρ ++ [.own false xs]) (σ ++ [some (.ref a)]) H := by
  have hl := R.len
  have last : ∀ {i : Nat}, i = ρ.length → (σ ++ [some (.ref a)])[i]? = some (some (.ref a)) := fun {i} e => by rw [e, hl]; exact at_end
  have tre : ∀ {i : Nat} {t : Tr}, (ρ ++ [Sv.own false xs])[i]? = some (.tre t) → ρ[i]? = some (.tre t) := fun {i t} e => by
    rcases snoc_at e with e | ⟨-, e⟩
    · exact e
    · cases e
  have slot : ∀ {i : Nat} {b : Bool} {ys : List D} {c : Addr}, ρ[i]? = some (.own b ys) → (σ ++ [some (.ref a)])[i]? = some (some (.ref c)) → σ[i]? = some (some (.ref c)) := fun {i b ys c} e1 e2 => by
    have hi : i < σ.length := by rw [← hl]; exact (List.getElem?_eq_some_iff.mp e1).1
    rw [List.getElem?_append_left hi] at e2
    exact e2
  refine ⟨by simp [hl], R.sg, R.sf, R.gf, fun i d e => ?_, fun i b ys e => ?_, fun i j c b ys b' zs e1 e2 e3 e4 => ?_, fun p hp => ?_, fun i ys e => ?_, R.tr.step (fun i t e => ?_) (Same.refl _) (fun i t b e hb => ?_) fun j c ys b i t e1 e2 e3 => ?_⟩
  · rcases snoc_at e with e | ⟨-, e⟩
    · obtain ⟨v, g1, g2⟩ := R.dat i d e
      exact ⟨v, at_snoc g1, g2⟩
    · cases e
  · rcases snoc_at e with e | ⟨ei, e⟩
    · obtain ⟨c, vs, g1, g2⟩ := R.own i b ys e
      exact ⟨c, vs, at_snoc g1, g2⟩
    · cases e
      exact ⟨a, us, last ei, h1, h2, h3, h5⟩
  · rcases snoc_at e1 with e1 | ⟨i1, e1⟩
    · rcases snoc_at e2 with e2 | ⟨i2, e2⟩
      · exact R.ne i j c b ys b' zs e1 e2 (slot e1 e3) (slot e2 e4)
      · rw [last i2] at e4
        cases e4
        exact absurd (slot e1 e3) (h4.own i b ys e1)
    · rcases snoc_at e2 with e2 | ⟨i2, e2⟩
      · rw [last i1] at e3
        cases e3
        exact absurd (slot e2 e4) (h4.own j b' zs e2)
      · rw [i1, i2]
  · obtain ⟨g1, ys, g2⟩ := R.pin p hp
    exact ⟨at_snoc g1, ys, at_snoc g2⟩
  · rcases snoc_at e with e | ⟨-, e⟩
    · exact R.pinc i ys e
    · cases e
  · have e := tre e
    obtain ⟨v, g1, _⟩ := R.tr.got i t e
    exact ⟨e, by rw [at_snoc g1, g1]⟩
  · obtain ⟨_, g2, g3⟩ := R.tr.ex (tre e) hb
    exact ⟨rfl, g2, g3⟩
  · rcases snoc_at e1 with e1 | ⟨ei, e1⟩
    · exact R.tr.own i t j c ys b (tre e3) e1 (slot e1 e2)
    · rw [last ei] at e2
      cases e2
      exact h4.tre i t (tre e3)
end
end VS
/-! VSG: xs[::-1] of a list. -/
/-! VSH: a list (as data) times a number. -/
namespace VS
open PySem PySem.Spec PyProof.Rows L2
section
variable {X : Cx} {K : PySem.W.Frag}
/-- a * b: numbers; a text or a list times a number -/
def bMulC : D → D → (D → Prop) → Prop
  | .lst xs, .int k, Q => -(2 ^ 63) ≤ k ∧ k < 2 ^ 63 ∧ xs.length * k.toNat ≤ sizeLine ∧ Q (.lst (List.replicate k.toNat xs).flatten)
  | d, e, Q => bMulB d e Q
end
section
variable {QV : D → Prop} {xs : List D} {i j : Int} {x : Str}
@[simp ↓] theorem q_bMulC1 : bMulC (.lst xs) (.int j) QV = (-(2 ^ 63) ≤ j ∧ j < 2 ^ 63 ∧ xs.length * j.toNat ≤ sizeLine ∧ QV (.lst (List.replicate j.toNat xs).flatten)) := keep rfl
@[simp ↓] theorem q_bMulC2 : bMulC (.int i) (.int j) QV = (CMulA i j ∧ QV (.int (i * j))) := keep rfl
end
end VS
/-! VSI: calls within an except suite. -/
namespace VS
open PySem PySem.Spec PyProof.Rows L2
/-! ### the handled exception, as the layer has it -/
structure HotH (A : Around) (H : Hp) : Prop where
  ex : ∃ (x : Addr) (oe : Obj) (vs : Array Value), A.handled = some (.ref x) ∧ H x = some (xo x oe) ∧ oe.data = .fields vs ∧ vs[2]? = some .none
theorem HotH.mono {A : Around} {H H' : Hp} (h : HotH A H) (s : Same H H') : HotH A H' := by
  obtain ⟨x, oe, vs, h1, h2, h3, h4⟩ := h.ex
  exact ⟨x, oe, vs, h1, s _ _ h2, h3, h4⟩
theorem HotH.at {A : Around} {H : Hp} {P : Program} {w : World} {h : Heap} (k : HotH A H) (ok : HOk P w H h) : ∃ x, HotX.HotAt A x h := by
  obtain ⟨x, oe, vs, h1, h2, h3, h4⟩ := k.ex
  exact ⟨x, h1, oe, vs, xo_at ok h2, h3, h4⟩
/-! ### a def that may be called while an exception is handled -/
theorem RoomH.units {k : Nat} {A : Around} (r : L2H.RoomH k A) : A.units + 64 < cLine := by have := r.un; omega
/-- where a def may be called while an exception is handled -/
structure RunH (k : Nat) (X : Cx) : Prop where
  hr : L2H.RoomH k X.A
  hg : X.A.guards = some []
theorem RunH.mono {j k : Nat} {X : Cx} (r : RunH k X) (h : j ≤ k) : RunH j X := ⟨r.hr.mono h, r.hg⟩
theorem Run.suite {k : Nat} {X : Cx} (r : Run k X) (a : Addr) (pn : List (Addr × Obj)) : RunH k (X.suite a pn) := ⟨⟨r.hr.dp, r.hr.un⟩, r.hg⟩
/-! ### try: .. except x as n: a suite that calls -/
end VS
/-! VSJ: a def that gives a tuple of a list of its own and data; its list taken out. -/
namespace VS
open PySem PySem.Spec PyProof.Rows L2
/-- return (x, e), x a list of its own -/
def kRetPr (D : AEnds) (i : Nat) : KD := fun d ρ1 => match ρ1[i]? with
  | some (.own false xs) => D.rt (.pr xs d) (ρ1.set i .un)
  | _ => False
def sRetPr (i : Nat) (te : AE) : AS := fun D ρ => isOwn ρ i ∧ te ρ (kRetPr D i) D.xx
/-- f(..)[0] where f gives such a tuple -/
def kDefPr2 (QL : List D → List Sv → Prop) (ρ : List Sv) (as : List Ar) : Sv → List Sv → Prop := fun r ρp => match r with
  | .pr xs _ => QL xs (put ρ as ρp)
  | _ => False
def kDefPr1 (Z : KX) (QL : List D → List Sv → Prop) (c : Ctr) (dds : List D) : List Ar → List Sv → Prop := fun as ρ1 => lendOk ρ1 as ∧ c ((as.map (res ρ1)) ++ dds.map .dat) (kDefPr2 QL ρ1 as) (kDefX ρ1 Z as)
def oDefPr (c : Ctr) (dds : List D) (t : AAr) : AO := fun ρ Q Z => t ρ (kDefPr1 Z Q c dds) Z
section
variable {te : AE} {ρ ρ1 ρp : List Sv} {QL : List D → List Sv → Prop} {Z : KX} {xs : List D} {d : D} {t : AAr} {c : Ctr} {dds : List D} {as : List Ar} {i : Nat} {E : AEnds}
@[simp ↓] theorem q_sRetPr : sRetPr i te E ρ = (isOwn ρ i ∧ te ρ (kRetPr E i) E.xx) := rfl
@[simp ↓] theorem q_kRetPr : kRetPr E i d ρ1 = (match ρ1[i]? with
  | some (.own false xs) => E.rt (.pr xs d) (ρ1.set i .un)
  | _ => False) := by
  unfold kRetPr
  rcases ρ1[i]? with _ | (_ | _ | ⟨_ | _, _⟩ | ⟨_, _⟩) <;> rfl
@[simp ↓] theorem q_oDefPr : oDefPr c dds t ρ QL Z = t ρ (kDefPr1 Z QL c dds) Z := rfl
@[simp ↓] theorem q_kDefPr1 : kDefPr1 Z QL c dds as ρ1 = (lendOk ρ1 as ∧ c ((as.map (res ρ1)) ++ dds.map .dat) (kDefPr2 QL ρ1 as) (kDefX ρ1 Z as)) := rfl
@[simp ↓] theorem q_kDefPr2 : kDefPr2 QL ρ as (.pr xs d) ρp = QL xs (put ρ as ρp) := rfl
end
end VS
/-! VSK: exceptions made as values. -/
namespace VS
open PySem PySem.Spec PyProof.Rows L2
theorem inv_same {X : Cx} {pins : List (Addr × Obj)} {σ : St} {H : Hp} {s s' : Shared} (I : Inv X pins σ H s) (hh : s'.heap = s.heap) (ho : s'.os = s.os) (hb : AllBare s'.gens) : Inv X pins σ H s' := by
  obtain ⟨hp, gs, dr, tk, os⟩ := s
  obtain ⟨hp', gs', dr', tk', os'⟩ := s'
  cases hh
  cases ho
  exact ⟨I.ok, I.os, hb, I.base, I.loc, I.cell, I.free, I.freeC, I.pin, I.hok, I.len⟩
theorem pe_mk {X : Cx} {e : Expr} {t : St → Hp → XK → Prop} (he : L2N.PMk X e t) : PE X e (fun σ H Q => t σ H fun cls d H' => ∀ a oe, H' a = none → Zc cls d oe → (∃ vs, oe.data = .fields vs) → Q (.ref a) (upd H' a (xo a oe))) := by
  refine ⟨fun pins s σ H Q I h => wpAny_mono (he pins s σ H _ I h) (fun u s1 hu => ?_) fun _ _ x => x⟩
  obtain ⟨a, oe, vs, sI, H', cls, d, rfl, J, k, hne, ha, hz, hd, h1, na, os, ag, r, q⟩ := hu
  have J2 : Inv X pins σ (upd H' a (xo a oe)) { sI with heap := s1.heap, toks := sI.toks } := J.laidN k hne na ⟨ha, ⟨oe, ha⟩, fun h1 h2 z k => k _ z⟩
  exact ⟨.ref a, _, inv_same J2 rfl os ag, rfl, q a oe na hz.zc ⟨vs, hd⟩⟩
def aExc0 (c : Str) : AE := fun ρ Q Z => Q (excD ⟨c, none⟩) ρ
def kExc1 (Q : KD) (c f : Str) : KD := fun y ρ1 => Q (excD ⟨c, some (f, y)⟩) ρ1
def aExc1 (c f : Str) (t : AE) : AE := fun ρ Q Z => t ρ (kExc1 Q c f) Z
section
variable {X : Cx} {W : WX} {c f m : Str} {j : Nat} {p p2 pos : Pos} {e : Expr} {te : AE}
theorem e_exc0 (r : RaiC X.K X.mg c) (hg : Gl X c) (hdb : (c == ("__debug__" : Str)) = false := by decide) : EX X W (.Call (.Name c p) [.Constant (.str m) j p2] [] pos) (aExc0 c) := by
  obtain ⟨C, h1, h2, h3, h4, h5, h6⟩ := r.ex
  refine ⟨_, pe_mk (L2N.pmk_own PySem.F.excBase_ValueError h3 h2 h4 (raises_own h5 h6) hg hdb), fun P G F ρ σ H Q Z Q' R h hz hq => ?_⟩
  intro a oe na z hv
  have g := Grow.new (o := xo a oe) R.sg na
  exact hq _ ρ _ _ _ (R.grow g) g.j (rp_exc (H := H) (x := ⟨c, none⟩) ⟨⟨C, h1, rfl⟩, rfl⟩ z hv (R.sg.free na)) h
theorem e_exc1 {k : Nat} (tk : L2N.Takes X W) (r : RaiF X.prog X.w X.K X.mg X.base k c f) (rn : Run (k + 1) X) (he : EX X W e te) (hg : Gl X c) (hdb : (c == ("__debug__" : Str)) = false := by decide)
    (hst : starEach (e :: []) X.env = (false, eval e X.env) :: starEach [] X.env := by rfl) (hpl : (backTo pos (starEach [] X.env)).any (·.1) = false := by rfl) : EX X W (.Call (.Name c p) [e] [] pos) (aExc1 c f te) := by
  obtain ⟨C, fI, fd, ps, h1, h2, T, h3, h4, F1, hb⟩ := r.ex
  obtain ⟨Te, pe, re⟩ := he.ex
  refine ⟨_, pe_mk (pmk_oexN T h3 h4 F1 rn.hr hb .nil (L2N.passes_call tk fun _ _ _ _ z => z.elim) hg h2 (pa_cons pe pa_nil hst) hdb hst hpl), fun P G F ρ σ H Q Z Q' R h hz hq => ?_⟩
  refine re P G F ρ σ H _ Z _ R h hz fun G1 ρ1 H1 v y R1 s1 rv q => ?_
  refine ⟨by show 1 ≤ 1000; decide, fun a na => ⟨a, v, rfl, upd_same, fun dx hdx hne => ⟨rfl, dx, [(f, v)], upd_same, ?_, ?_, ?_⟩⟩⟩
  · rw [upd_ne hne, upd_same]
  · rw [upd_ne hne] at hdx; exact hdx
  · rw [upd_ne hne] at hdx
    rw [upd_del na hne]
    have g := Grow.new (o := .xd [(f, v)]) R1.sg hdx
    intro a' oe na' z hv
    have R2 := R1.grow g
    have g2 := Grow.new (o := xo a' oe) R2.sg na'
    exact hq _ ρ1 _ _ _ (R2.grow g2) ((s1.trans g.j).trans g2.j) (rp_exc (H := H) (x := ⟨c, some (f, y)⟩) ⟨⟨C, h1, rfl⟩, dx, v, rfl, upd_same, rv.mono g.j⟩ z hv (R2.sg.free na')) q
end
section
variable {ρ ρ1 : List Sv} {Q : KD} {Z : KX} {c f : Str} {te : AE} {y : VS.D}
@[simp ↓] theorem q_aExc0 : aExc0 c ρ Q Z = Q (excD ⟨c, none⟩) ρ := keep rfl
@[simp ↓] theorem q_aExc1 : aExc1 c f te ρ Q Z = te ρ (kExc1 Q c f) Z := keep rfl
@[simp ↓] theorem q_kExc1 : kExc1 Q c f y ρ1 = Q (excD ⟨c, some (f, y)⟩) ρ1 := keep rfl
end
end VS
/-! VSL: isinstance of an exception with several classes. -/
namespace VS
open PySem PySem.Spec PyProof.Rows L2
/-- whether one of the classes fits -/
def isAny : List (List (Str × Bool)) → Str → Option Bool
  | [], _ => some false
  | cl :: r, n => match cl.lookup n with
    | none => none
    | some true => some true
    | some false => isAny r n
def tAs (As : List Addr) : TA := fun _ H Q => Q (As.map V.ref) H
/-- several exception classes by name -/
def ISL (X : Cx) (es : List Expr) (cls : List (List (Str × Bool))) : Prop := ∃ As : List Addr, As.length = cls.length ∧ PA X es (tAs As) ∧
  ∀ n b, isAny cls n = some b → ∀ C, PySem.W.nsIn X.K mainGlobals n = some (some (.ref C)) → PySem.W.kitAny X.K (.ref C) (As.map Value.ref) = some b
section
variable {X : Cx}
theorem isl_nil : ISL X [] [] := ⟨[], rfl, pa_nil, fun n b h C _ => by cases h; exact kitAny_nil⟩
end
theorem call_isXT {X : Cx} : CallR X (.builtin "isinstance") (fun xs H Q => ∃ (a : Addr) (oe : Obj) (C tp : Addr) (As : List Addr) (b : Bool), xs = [.ref a, .ref tp] ∧ H a = some (xo a oe) ∧ oe.cls = .ref C ∧ (∃ fv, oe.data = .fields fv) ∧ (oe.dict = none ∨ ∃ dx fs, oe.dict = some dx ∧ H dx = some (.xd fs)) ∧ ExcC X.K C ∧ H tp = some (.tup (As.map V.ref)) ∧ PySem.W.kitAny X.K (.ref C) (As.map Value.ref) = some b ∧ Q (.bl b) H) := by
  intro pins s σ H xs us Q I r h
  obtain ⟨a, oe, C, tp, As, b, rfl, ha, hcls, ⟨fv, hv⟩, hdct, T, hT, e, q⟩ := h
  cases r with
  | cons rx rr =>
    cases rr with
    | cons rt rr =>
      cases rr
      cases rx
      cases rt
      obtain ⟨_, its, rv, o, h1, h2, n, h3⟩ := (show ObjOk X.prog X.w H s.heap tp (.tup (As.map V.ref)) from I.hok tp _ hT)
      have e3 : its = As.map Value.ref := by
        have aux : ∀ (As : List Addr) (its : List Value), Vals (As.map V.ref) its → its = As.map Value.ref := fun As => by
          induction As with
          | nil => intro its h; cases h; rfl
          | cons a As ih =>
            intro its h
            cases h with
            | cons h1 h2 => cases h1; rw [ih _ h2]; rfl
        exact aux _ _ rv
      subst e3
      have hget := xo_at I.hok ha
      have nc : PySem.W.notCls oe = true := by unfold PySem.W.notCls; rw [hv] <;> rfl
      have hcl : (PySem.W.clsIn X.K C).isSome = true := by obtain ⟨cd, hc, _⟩ := PySem.W.any_some T.hd; rw [hc]; rfl
      obtain ⟨oc, od', dt, sl⟩ := o
      simp only at h2 h3
      subst h2 h3
      have go : ∀ od, PySem.W.InstAt s.heap a oe C od → wpAny (model X.prog X.w) X.A (call (.builtin "isinstance") [.ref a, .ref tp]) (EP X pins σ Q) X.xe s := fun od J =>
        PySem.W.kia_tup (PySem.W.kitx_exc (ox := oe) (od := od) hcl T.hg T.hk T.hs T.ha T.hn T.ht T.hm) I.kIn J h1 e (fun z => nomatch z) fun tk => ⟨.bl b, H, I.kept (t' := tk) fun _ _ z => z, rfl, q⟩
      rcases hdct with hn | ⟨dx, fs, hn, hx⟩
      · exact go none ⟨hget, hcls, nc, by rw [hn]; trivial⟩
      · have ox : ObjOk X.prog X.w H s.heap dx (.xd fs) := I.hok dx _ hx
        obtain ⟨mA, ⟨o, es, ep, ho, _⟩, _⟩ := ox
        exact go (some o) ⟨hget, hcls, nc, by rw [hn]; exact ho⟩
section
variable {X : Cx} {a : Expr} {va : AV} {cls : List (List (Str × Bool))} {p q3 pos : Pos} {es : List Expr} {cl : List (Str × Bool)} {j : Nat}
theorem isl_cons {y : Str} {q : Pos} (h : IsiC X.K X.mg y cl) (gY : Gl X y) (t : ISL X es cls) (hd : (y == ("__debug__" : Str)) = false := by decide)
    (he : starEach (.Name y q :: es) X.env = (false, eval (.Name y q) X.env) :: starEach es X.env := by rfl) : ISL X (.Name y q :: es) (cl :: cls) := by
  obtain ⟨C, h1, h2⟩ := h
  obtain ⟨As, ha, pA, hk⟩ := t
  refine ⟨C :: As, by simp [ha], pa_cons (te := tC (.ref C)) (t := tAs As) (pe_glob gY h1 (show RelV (.ref C) (.ref C) from rfl) hd) pA he, fun n b hb D hD => ?_⟩
  unfold isAny at hb
  cases e : cl.lookup n with
  | none => rw [e] at hb; cases hb
  | some b0 =>
    rw [e] at hb
    obtain ⟨_, k1⟩ := h2 n b0 e D hD
    cases b0 with
    | true =>
      cases hb
      exact kitAny_cons k1 (fun z => by cases z) (fun _ => rfl)
    | false => exact kitAny_cons k1 (fun _ => hk n b hb D hD) (fun z => by cases z)
def kIsEs (Q : D → Prop) (cls : List (List (Str × Bool))) : D → Prop := fun d => match d with
  | .obj c ns _ => (ns = (["!"] : List Str) ∨ ∃ f : Str, ns = (["!", f] : List Str)) ∧ ∃ b, isAny cls c = some b ∧ Q (.bl b)
  | _ => False
def vIsEs (cls : List (List (Str × Bool))) (va : AV) : AV := fun ρ Q => va ρ (kIsEs Q cls)
theorem v_isEs {y : Str} {q : Pos} (h : IsiC X.K X.mg y cl) (gY : Gl X y) (t : ISL X es cls) (hg : Gl X "isinstance") (hm : X.mg "isinstance" = none) (ea : VW X a va) (hn : cls.length ≤ 50 := by decide) (hd : (y == ("__debug__" : Str)) = false := by decide)
    (hes : starEach (.Name y q :: es) X.env = (false, eval (.Name y q) X.env) :: starEach es X.env := by rfl)
    (he : starEach [a, .Tuple (.Name y q :: es) j q3] X.env = (false, eval a X.env) :: starEach [.Tuple (.Name y q :: es) j q3] X.env := by rfl) (hst : starEach [.Tuple (.Name y q :: es) j q3] X.env = (false, eval (.Tuple (.Name y q :: es) j q3) X.env) :: starEach [] X.env := by rfl)
    (hpl : (backTo pos (starEach [.Tuple (.Name y q :: es) j q3] X.env)).any (·.1) = false := by rfl) : VW X (.Call (.Name "isinstance" p) [a, .Tuple (.Name y q :: es) j q3] [] pos) (vIsEs (cl :: cls) va) := by
  have hX : ∀ n b, cl.lookup n = some b → ∀ C, PySem.W.nsIn X.K mainGlobals n = some (some (.ref C)) → ExcC X.K C := by
    obtain ⟨C, h1, h2⟩ := h
    exact fun n b e C hC => (h2 n b e C hC).1
  obtain ⟨As, hlA, pA, hk⟩ := isl_cons h gY t hd hes
  obtain ⟨Ta, pa, ra⟩ := ea.ex
  refine ⟨_, pe_callB call_isXT hg hm (by decide +kernel) (pa_cons pa (pa_cons (pe_tup pA) pa_nil hst) he) (by decide) (by decide) he hpl, fun P G F ρ σ H Q Q' R h hq => ?_⟩
  refine ra P G F ρ σ H _ _ R h fun G1 H1 v d R1 s1 k1 rv q => ?_
  cases d with
  | obj c ns xs =>
    obtain ⟨hns, bo, hl, q⟩ := q
    obtain ⟨C, l, vs, g0, rfl, g2, g3, g4⟩ := rp_objA.mp rv
    have hlk : ∃ b0, cl.lookup c = some b0 := by
      unfold isAny at hl
      cases e : cl.lookup c with
      | none => rw [e] at hl; cases hl
      | some b0 => exact ⟨b0, rfl⟩
    obtain ⟨b0, hlk⟩ := hlk
    have T := hX c b0 hlk C g0
    have hka := hk c bo hl C g0
    have hx : isX ns = true := by
      rcases hns with rfl | ⟨f, rfl⟩
      · exact isX_bang
      · exact isX_bang2
    rcases g4 with ⟨z, _⟩ | ⟨_, oe, m1, m2, m3, m4⟩
    · rw [hx] at z; cases z
    refine ⟨by rw [List.length_map, hlA, sizeLine_eq]; simp; omega, fun tp ht => ?_⟩
    have g := Grow.new (o := .tup (As.map V.ref)) (Same.refl H1) ht
    refine ⟨l, oe, C, tp, As, bo, rfl, g.h _ _ m1, m2, m3, ?_, T, upd_same, hka, hq G1 _ _ _ (R1.growV g) s1 (k1.trans g.h) (rp_b _) q⟩
    rcases hns with rfl | ⟨f, rfl⟩
    · exact .inl m4
    · right
      cases vs with
      | nil => exact (show False from m4).elim
      | cons v0 vs =>
        cases vs with
        | nil => have := g3.length; rw [← g2] at this; simp at this
        | cons v1 vs =>
          obtain ⟨dx, n1, n2⟩ := m4
          exact ⟨dx, _, n1, g.h _ _ n2⟩
  | _ => exact q.elim
end
/-! ### divmod -/
section
variable {ρ : List Sv} {Q : D → Prop} {va : AV} {cls : List (List (Str × Bool))}
@[simp ↓] theorem q_vIsEs : vIsEs cls va ρ Q = va ρ (kIsEs Q cls) := keep rfl
theorem q_kIsEs {x : Exc} {b : Bool} (h : isAny cls x.c = some b) : kIsEs Q cls (excD x) = Q (.bl b) := by
  obtain ⟨c, fld⟩ := x
  cases fld with
  | none => exact propext ⟨fun ⟨_, b', e, q⟩ => by rw [h] at e; cases e; exact q, fun q => ⟨.inl rfl, b, h, q⟩⟩
  | some f => exact propext ⟨fun ⟨_, b', e, q⟩ => by rw [h] at e; cases e; exact q, fun q => ⟨.inr ⟨_, rfl⟩, b, h, q⟩⟩
end
end VS
/-! VSM: sorted(list of ints). -/
namespace VS
open PySem PySem.Spec PyProof.Rows L2
def bSortI : List D → (D → Prop) → Prop
  | [.lst ds], Q => ∃ ns : List Int, ds = ns.map .int ∧ ns.length < 64 ∧ ∀ ns' : List Int, ns'.Perm ns → ns'.Pairwise (· ≤ ·) → Q (.lst (ns'.map .int))
  | _, _ => False
@[simp ↓] theorem q_bSortI {ds : List D} {Q : D → Prop} : bSortI [.lst ds] Q = (∃ ns : List Int, ds = ns.map .int ∧ ns.length < 64 ∧ ∀ ns' : List Int, ns'.Perm ns → ns'.Pairwise (· ≤ ·) → Q (.lst (ns'.map .int))) := keep rfl
end VS
/-! VSN: trees: a list of its own whose items may be tuples with lists of their own. -/
namespace VS
open PySem PySem.Spec PyProof.Rows L2
section
variable {K : PySem.W.Frag} {G G' H H' : Hp}
theorem footL_app : ∀ {ts us : List Tr}, Tr.footL (ts ++ us) = Tr.footL ts ++ Tr.footL us
  | [], us => by rw [footL_nil]; rfl
  | t :: ts, us => by rw [List.cons_append, footL_cons, footL_cons, footL_app, List.append_assoc]
theorem footL_leaf : ∀ {xs : List D}, Tr.footL (xs.map .leaf) = []
  | [] => footL_nil
  | x :: xs => by rw [List.map_cons, footL_cons, foot_leaf, footL_leaf]; rfl
theorem stripL_map : ∀ {ts : List Tr}, Tr.stripL ts = ts.map Tr.strip
  | [] => by rw [Tr.stripL]; rfl
  | t :: ts => by rw [Tr.stripL, stripL_map]; rfl
theorem trl_leaf : ∀ {xs : List D} {vs : List V}, TRL K G H (xs.map .leaf) vs ↔ RpL K G xs vs
  | [], vs => by rw [List.map_nil, trl_nil, rpl_nil]
  | x :: xs, vs => by
    rw [List.map_cons, trl_cons, rpl_cons]
    constructor
    · rintro ⟨v, r, h1, h2, h3⟩; exact ⟨v, r, h1, tr_leaf.mp h2, trl_leaf.mp h3⟩
    · rintro ⟨v, r, h1, h2, h3⟩; exact ⟨v, r, h1, tr_leaf.mpr h2, trl_leaf.mpr h3⟩
theorem TRL.append : ∀ {ts us : List Tr} {vs ws : List V}, TRL K G H ts vs → TRL K G H us ws → TRL K G H (ts ++ us) (vs ++ ws)
  | [], us, vs, ws, h, k => by rw [trl_nil.mp h]; exact k
  | t :: ts, us, vs, ws, h, k => by
    obtain ⟨v, r, rfl, h2, h3⟩ := trl_cons.mp h
    exact trl_cons.mpr ⟨v, r ++ ws, rfl, h2, TRL.append h3 k⟩
theorem TRL.length : ∀ {ts : List Tr} {vs : List V}, TRL K G H ts vs → ts.length = vs.length
  | [], vs, h => by rw [trl_nil.mp h]; rfl
  | t :: ts, vs, h => by
    obtain ⟨v, r, rfl, _, h3⟩ := trl_cons.mp h
    rw [List.length_cons, List.length_cons, TRL.length h3]
/-- one item of trees -/
theorem TRL.put : ∀ {ts : List Tr} {vs : List V} {n : Nat} {u : Tr}, TRL K G H ts vs → ts[n]? = some u → ∃ w, vs[n]? = some w ∧ TR K G H u w ∧ ∀ {G' H' : Hp} {u' : Tr}, Same G G' → (∀ a ∈ Tr.footL ts, a ∉ u.foot → H' a = H a) → (Tr.footL ts).Nodup → TR K G' H' u' w → TRL K G' H' (ts.set n u') vs
  | [], _, _, _, _, e => by simp at e
  | t :: ts, vs, 0, u, h, e => by
    obtain ⟨v, r, rfl, h2, h3⟩ := trl_cons.mp h
    have e' : t = u := Option.some.inj e
    subst e'
    refine ⟨v, rfl, h2, fun {G' H' u'} s hH nd k => ?_⟩
    rw [footL_cons] at nd hH
    have dj := (List.nodup_append.mp nd).2.2
    refine trl_cons.mpr ⟨v, r, rfl, k, TRL.mono s (fun a ha => hH a (List.mem_append_right _ ha) fun hb => dj a hb a ha rfl) h3⟩
  | t :: ts, vs, n + 1, u, h, e => by
    obtain ⟨v, r, rfl, h2, h3⟩ := trl_cons.mp h
    obtain ⟨w, k1, k2, k3⟩ := TRL.put (n := n) h3 e
    refine ⟨w, k1, k2, fun {G' H' u'} s hH nd k => ?_⟩
    rw [footL_cons] at nd hH
    have nd' := List.nodup_append.mp nd
    have mem : ∀ a ∈ u.foot, a ∈ Tr.footL ts := by
      clear k3 k2 k1 h3 h2 h hH nd nd'
      induction ts generalizing n with
      | nil => simp at e
      | cons x ts ih =>
        intro a ha
        rw [footL_cons]
        cases n with
        | zero => rw [show x = u from Option.some.inj e]; exact List.mem_append_left _ ha
        | succ n => exact List.mem_append_right _ (ih (n := n) e a ha)
    refine trl_cons.mpr ⟨v, r, rfl, TR.mono s (fun a ha => hH a (List.mem_append_left _ ha) fun hb => nd'.2.2 a ha a (mem a hb) rfl) h2, k3 s (fun a ha hb => hH a (List.mem_append_right _ ha) hb) nd'.2.1 k⟩
theorem footL_set : ∀ {ts : List Tr} {n : Nat} {u u' : Tr}, ts[n]? = some u → u'.foot = u.foot → Tr.footL (ts.set n u') = Tr.footL ts
  | [], _, _, _, e, _ => by simp at e
  | t :: ts, 0, u, u', e, h => by
    rw [show t = u from Option.some.inj e, List.set_cons_zero, footL_cons, footL_cons, h]
  | t :: ts, n + 1, u, u', e, h => by
    rw [List.set_cons_succ, footL_cons, footL_cons, footL_set (n := n) e h]
theorem mem_footL : ∀ {ts : List Tr} {n : Nat} {u : Tr} {a : Addr}, ts[n]? = some u → a ∈ u.foot → a ∈ Tr.footL ts
  | [], _, _, _, e, _ => by simp at e
  | t :: ts, 0, u, a, e, h => by
    rw [footL_cons, show t = u from Option.some.inj e]; exact List.mem_append_left _ h
  | t :: ts, n + 1, u, a, e, h => by
    rw [footL_cons]; exact List.mem_append_right _ (mem_footL (n := n) e h)
end
section
variable {K : PySem.W.Frag} {P : List (Nat × Addr)} {G G' F : Hp} {ρ : List Sv} {σ : St} {H H' : Hp}
theorem treS {i j : Nat} {t u : Tr} (q : (ρ.set i (.tre t))[j]? = some (.tre u)) : (j = i ∧ u = t) ∨ (j ≠ i ∧ ρ[j]? = some (.tre u)) := by
  rcases get_set q with ⟨e, z⟩ | q
  · cases z; exact .inl ⟨e, rfl⟩
  · exact .inr q
/-- a slot holds a tree -/
theorem Rel.setT (R : Rel K P G F ρ σ H) {i : Nat} (ok : okSet ρ i) {t : Tr} {v : V} (ht : TRt K G H t v) (nd : t.foot.Nodup) (hf : ∀ a ∈ t.foot, G a = none ∧ F a = none ∧ NoS ρ σ a) : Rel K P G F (ρ.set i (.tre t)) (σ.set i (some v)) H := by
  have hl : i < σ.length := by rw [← R.len]; exact ok.lt
  refine ⟨by rw [List.length_set, List.length_set]; exact R.len, R.sg, R.sf, R.gf, fun j e q => ?_, fun j b ys q => ?_, fun j k a b ys c zs q1 q2 q3 q4 => ?_, fun p hp => ?_, fun j ys q => ?_, ⟨fun j u q => ?_, fun j u k c ys a q1 q2 q3 => ?_, fun j u k w q1 q2 hne a ha => ?_⟩⟩
  · rcases get_set q with ⟨_, z⟩ | ⟨hj, q⟩
    · cases z
    · rw [set_ne hj]; exact R.dat j e q
  · obtain ⟨hj, q⟩ := noOwnS (fun _ _ z => by cases z) q
    rw [set_ne hj]; exact R.own j b ys q
  · obtain ⟨hj, q1⟩ := noOwnS (fun _ _ z => by cases z) q1
    obtain ⟨hk, q2⟩ := noOwnS (fun _ _ z => by cases z) q2
    rw [set_ne hj] at q3
    rw [set_ne hk] at q4
    exact R.ne j k a b ys c zs q1 q2 q3 q4
  · obtain ⟨g1, zs, g2⟩ := R.pin p hp
    have hne : p.1 ≠ i := fun z => ok.nio zs (by rw [← z]; exact g2)
    exact ⟨by rw [set_ne hne]; exact g1, zs, by rw [set_ne hne]; exact g2⟩
  · exact R.pinc j ys (noOwnS (fun _ _ z => by cases z) q).2
  · rcases treS q with ⟨rfl, rfl⟩ | ⟨hj, q⟩
    · exact ⟨v, set_eq hl, ht, nd, fun a ha => ⟨(hf a ha).1, (hf a ha).2.1⟩⟩
    · rw [set_ne hj]; exact R.tr.got j u q
  · obtain ⟨hk, r2⟩ := noOwnS (fun _ _ z => by cases z) q2
    rw [set_ne hk] at q3
    rcases treS q1 with ⟨ej, eu⟩ | ⟨hj, r1⟩
    · rw [eu]; exact fun ha => (hf a ha).2.2.own k c ys r2 q3
    · exact R.tr.own j u k c ys a r1 r2 q3
  · rcases treS q1 with ⟨e1, eu⟩ | ⟨hj, r1⟩
    · rcases treS q2 with ⟨e2, ew⟩ | ⟨hk, r2⟩
      · exact absurd (e1.trans e2.symm) hne
      · exact (hf a (by rw [← eu]; exact ha)).2.2.tre k w r2
    · rcases treS q2 with ⟨e2, ew⟩ | ⟨hk, r2⟩
      · rw [ew]; exact fun hb => (hf a hb).2.2.tre j u r1 ha
      · exact R.tr.ne j u k w r1 r2 hne a ha
/-- a tree is changed in place, and may grow by new lists -/
theorem Rel.updT (R : Rel K P G F ρ σ H) {i : Nat} {t t' : Tr} {v : V} (e : ρ[i]? = some (.tre t)) (ev : σ[i]? = some (some v)) (hH : ∀ b o, H b = some o → b ∉ t.foot → H' b = some o) (ht : TRt K G H' t' v) (nd : t'.foot.Nodup)
    (hf : ∀ a ∈ t'.foot, a ∈ t.foot ∨ (G a = none ∧ F a = none ∧ NoS ρ σ a)) : Rel K P G F (ρ.set i (.tre t')) σ H' := by
  have hl : i < ρ.length := (List.getElem?_eq_some_iff.mp e).1
  obtain ⟨v0, g1, g2, g3, g4⟩ := R.tr.got i t e
  refine ⟨by rw [List.length_set]; exact R.len, fun b o q => ?_, fun b o q => ?_, R.gf, fun j d q => ?_, fun j b ys q => ?_, fun j k a b ys c zs q1 q2 => ?_, fun p hp => ?_, fun j ys q => ?_, ⟨fun j u q => ?_, fun j u k c ys a q1 q2 q3 => ?_, fun j u k w q1 q2 hne a ha => ?_⟩⟩
  · exact hH b o (R.sg _ _ q) fun hb => by rw [(g4 b hb).1] at q; cases q
  · exact hH b o (R.sf _ _ q) fun hb => by rw [(g4 b hb).2] at q; cases q
  · rcases get_set q with ⟨_, z⟩ | ⟨_, q⟩
    · cases z
    · exact R.dat j d q
  · obtain ⟨hj, q⟩ := noOwnS (fun _ _ z => by cases z) q
    obtain ⟨a, us, k1, k2, k3, k4, k5⟩ := R.own j b ys q
    exact ⟨a, us, k1, hH _ _ k2 (R.tr.own i t j b ys a e q k1), k3, k4, k5⟩
  · exact R.ne j k a b ys c zs (noOwnS (fun _ _ z => by cases z) q1).2 (noOwnS (fun _ _ z => by cases z) q2).2
  · obtain ⟨k1, zs, k2⟩ := R.pin p hp
    refine ⟨k1, zs, ?_⟩
    rw [set_ne fun z => ?_]
    · exact k2
    · rw [z, e] at k2; cases k2
  · exact R.pinc j ys (noOwnS (fun _ _ z => by cases z) q).2
  · rcases treS q with ⟨rfl, rfl⟩ | ⟨hj, q⟩
    · exact ⟨v, ev, ht, nd, fun a ha => by
        rcases hf a ha with h | h
        · exact g4 a h
        · exact ⟨h.1, h.2.1⟩⟩
    · obtain ⟨w, k1, k2, k3, k4⟩ := R.tr.got j u q
      exact ⟨w, k1, k2.mono (Same.refl _) (fun a ha => by
        obtain ⟨ws, hw⟩ := k2.ex ha
        rw [hw]
        exact hH a _ hw (R.tr.ne j u i t q e hj a ha)), k3, k4⟩
  · obtain ⟨hk, r2⟩ := noOwnS (fun _ _ z => by cases z) q2
    rcases treS q1 with ⟨ej, eu⟩ | ⟨hj, r1⟩
    · intro ha
      rw [eu] at ha
      rcases hf a ha with h | h
      · exact R.tr.own i t k c ys a e r2 q3 h
      · exact h.2.2.own k c ys r2 q3
    · exact R.tr.own j u k c ys a r1 r2 q3
  · rcases treS q1 with ⟨e1, eu⟩ | ⟨hj, r1⟩
    · rcases treS q2 with ⟨e2, ew⟩ | ⟨hk, r2⟩
      · exact absurd (e1.trans e2.symm) hne
      · rw [eu] at ha
        rcases hf a ha with h | h
        · exact R.tr.ne i t k w e r2 (fun z => hk z.symm) a h
        · exact h.2.2.tre k w r2
    · rcases treS q2 with ⟨e2, ew⟩ | ⟨hk, r2⟩
      · intro hb
        rw [ew] at hb
        rcases hf a hb with h | h
        · exact R.tr.ne j u i t r1 e hj a ha h
        · exact h.2.2.tre j u r1 ha
      · exact R.tr.ne j u k w r1 r2 hne a ha
end
/-! ### x = a list of its own, from now on a tree -/
def kSetT (E : AEnds) (i : Nat) : List D → List Sv → Prop := fun xs ρ1 => okSet ρ1 i ∧ ∀ a, E.nx (ρ1.set i (.tre (.lst a (xs.map .leaf))))
def sSetT (to : AO) (i : Nat) : AS := fun E ρ => to ρ (kSetT E i) E.xx
section
variable {X : Cx} {W : WX} {pos : Pos} {e e1 : Expr} {te : AE} {to : AO}
/-! ### x.append(e), x a tree -/
def kAppT (E : AEnds) (i : Nat) : KD := fun d ρ1 => match ρ1[i]? with
  | some (.tre (.lst a ts)) => ts.length < sizeLine ∧ E.nx (ρ1.set i (.tre (.lst a (ts ++ [.leaf d]))))
  | _ => False
def isTre (ρ : List Sv) (i : Nat) : Prop := match ρ[i]? with
  | some (.tre (.lst _ _)) => True
  | _ => False
theorem isTre.ex {ρ : List Sv} {i : Nat} (h : isTre ρ i) : ∃ a ts, ρ[i]? = some (.tre (.lst a ts)) := by
  unfold isTre at h
  split at h
  · rename_i a ts e; exact ⟨a, ts, e⟩
  · exact h.elim
def sAppT (i : Nat) (te : AE) : AS := fun E ρ => isTre ρ i ∧ te ρ (kAppT E i) E.xx
/-! ### x.append((e, a list of its own)) -/
def kAppTO2 (E : AEnds) (i : Nat) (d : D) : List D → List Sv → Prop := fun xs ρ2 => match ρ2[i]? with
  | some (.tre (.lst a ts)) => ts.length < sizeLine ∧ ∀ l, E.nx (ρ2.set i (.tre (.lst a (ts ++ [.tup [.leaf d, .lst l (xs.map .leaf)]]))))
  | _ => False
def kAppTO1 (to : AO) (E : AEnds) (i : Nat) : KD := fun d ρ1 => to ρ1 (kAppTO2 E i d) E.xx
def sAppTO (i : Nat) (te : AE) (to : AO) : AS := fun E ρ => isTre ρ i ∧ te ρ (kAppTO1 to E i) E.xx
end
/-! ### f(x[j][k], ..), where f changes this list -/
section
variable {K : PySem.W.Frag} {P : List (Nat × Addr)} {G G' F : Hp} {ρ : List Sv} {σ : St} {H H' : Hp}
open Classical in
noncomputable def openF (t : Tr) (l : Addr) (H F : Hp) : Hp := fun b => if b ∈ t.foot ∧ b ≠ l then H b else F b
theorem openF_yes {t : Tr} {l b : Addr} (h1 : b ∈ t.foot) (h2 : b ≠ l) : openF t l H F b = H b := by unfold openF; rw [if_pos ⟨h1, h2⟩]
theorem openF_no {t : Tr} {l b : Addr} (h : b ∉ t.foot) : openF t l H F b = F b := by unfold openF; rw [if_neg fun z => h z.1]
theorem openF_at {t : Tr} {l : Addr} : openF t l H F l = F l := by unfold openF; rw [if_neg fun z => z.2 rfl]
theorem Rel.openT (R : Rel K P G F ρ σ H) {i : Nat} {t : Tr} {l : Addr} (e : ρ[i]? = some (.tre t)) (hl : l ∈ t.foot) : Rel K P G (openF t l H F) (ρ.set i .un) σ H ∧ NoS (ρ.set i .un) σ l := by
  obtain ⟨v, h1, h2, h3, h4⟩ := R.tr.got i t e
  have un1 : ∀ {j : Nat} {b : Bool} {ys : List D}, (ρ.set i .un)[j]? = some (.own b ys) → ρ[j]? = some (.own b ys) := fun q => (noOwnS (fun _ _ z => by cases z) q).2
  have un2 : ∀ {j : Nat} {u : Tr}, (ρ.set i .un)[j]? = some (.tre u) → j ≠ i ∧ ρ[j]? = some (.tre u) := fun q => noTre (fun _ z => by cases z) q
  refine ⟨⟨by rw [List.length_set]; exact R.len, R.sg, fun b o q => ?_, fun b o q => ?_, fun j d q => ?_, fun j b ys q => ?_, fun j k a b ys c zs q1 q2 => R.ne j k a b ys c zs (un1 q1) (un1 q2), fun p hp => ?_, fun j ys q => R.pinc j ys (un1 q), R.tr.step (fun j u q => ⟨(un2 q).2, rfl⟩) (Same.refl _) (fun j u b q hb => ?_) fun j c ys a k u q1 q2 q3 => R.tr.own k u j c ys a (un2 q3).2 (un1 q1) q2⟩, ⟨fun j b ys q z => R.tr.own i t j b ys l e (un1 q) z hl, fun j u q => R.tr.ne i t j u e (un2 q).2 (fun z => (un2 q).1 z.symm) l hl⟩⟩
  · by_cases hb : b ∈ t.foot
    · by_cases hn : b = l
      · rw [hn, openF_at, (h4 l hl).2] at q; cases q
      · rwa [openF_yes hb hn] at q
    · rw [openF_no hb] at q; exact R.sf _ _ q
  · by_cases hb : b ∈ t.foot
    · exact (h4 b hb).1
    · rw [openF_no hb] at q; exact R.gf _ _ q
  · rcases get_set q with ⟨_, z⟩ | ⟨_, q⟩
    · cases z
    · exact R.dat j d q
  · obtain ⟨a, us, g1, g2, g3, g4, g5⟩ := R.own j b ys (un1 q)
    exact ⟨a, us, g1, g2, g3, by rw [openF_no (R.tr.own i t j b ys a e (un1 q) g1)]; exact g4, g5⟩
  · obtain ⟨k1, zs, k2⟩ := R.pin p hp
    refine ⟨k1, zs, ?_⟩
    rw [set_ne fun z => ?_]
    · exact k2
    · rw [z, e] at k2; cases k2
  · obtain ⟨hj, q⟩ := un2 q
    obtain ⟨_, g2, g3⟩ := R.tr.ex q hb
    exact ⟨rfl, g2, by rw [openF_no (R.tr.ne j u i t q e hj b hb)]; exact g3⟩
theorem set_same {α : Type} {l : List α} {i : Nat} {x : α} (h : l[i]? = some x) : l.set i x = l := by
  refine List.ext_getElem? fun j => ?_
  by_cases hj : j = i
  · rw [hj, set_eq (List.getElem?_eq_some_iff.mp h).1, h]
  · rw [set_ne hj]
end
def kLendT4 (E : AEnds) (ρ : List Sv) (i : Nat) (a : Addr) (ts : List Tr) (n1 : Nat) (us : List Tr) (n2 : Nat) (l : Addr) : Sv → List Sv → Prop := fun r ρp => match r, ρp with
  | .dat _, .own true ys :: _ => E.nx (ρ.set i (.tre (.lst a (ts.set n1 (.tup (us.set n2 (.lst l (ys.map .leaf))))))))
  | _, _ => False
def kLendT3 (E : AEnds) (ρ : List Sv) (i : Nat) (c : Ctr) (a : Addr) (ts : List Tr) (n1 : Nat) (us : List Tr) (n2 : Nat) (l : Addr) (xs : List D) : List D → Prop := fun ds => (∀ d ∈ ds, d.flat = true) ∧ c (.own true xs :: ds.map .dat) (kLendT4 E ρ i a ts n1 us n2 l) kNoX
def kLendT2 (E : AEnds) (ρ : List Sv) (i : Nat) (c : Ctr) (w : VA) (a : Addr) (ts : List Tr) (n1 : Nat) (us : List Tr) : D → Prop := fun d2 => ∃ j2 n2 l xs, d2 = .int j2 ∧ ixN us.length j2 = some n2 ∧ us[n2]? = some (.lst l (xs.map .leaf)) ∧ w ρ (kLendT3 E ρ i c a ts n1 us n2 l xs)
def kLendT1 (E : AEnds) (ρ : List Sv) (i : Nat) (c : Ctr) (w : VA) (v2 : AV) : D → Prop := fun d1 => ∃ j1 a ts n1 us, d1 = .int j1 ∧ ρ[i]? = some (.tre (.lst a ts)) ∧ ixN ts.length j1 = some n1 ∧ ts[n1]? = some (.tup us) ∧ v2 ρ (kLendT2 E ρ i c w a ts n1 us)
def sLendT (i : Nat) (v1 v2 : AV) (c : Ctr) (w : VA) : AS := fun E ρ => isTre ρ i ∧ v1 ρ (kLendT1 E ρ i c w v2)
/-! ### rules of simp -/
@[simp] theorem strip_leaf {d : D} : (Tr.leaf d).strip = d := by rw [Tr.strip]
@[simp] theorem strip_lst {a : Addr} {ts : List Tr} : (Tr.lst a ts).strip = .lst (ts.map Tr.strip) := by rw [Tr.strip, stripL_map]
@[simp] theorem strip_tup {ts : List Tr} : (Tr.tup ts).strip = .tup (ts.map Tr.strip) := by rw [Tr.strip, stripL_map]
section
variable {ρ ρ1 ρ2 : List Sv} {te : AE} {to : AO} {E : AEnds} {i n1 n2 : Nat} {xs ys : List D} {d d1 d2 : D} {a l : Addr} {ts us : List Tr} {v1 v2 : AV} {c : Ctr} {w : VA} {ds : List D} {r : Sv} {rest : List Sv}
@[simp ↓] theorem q_sSetT : sSetT to i E ρ = to ρ (kSetT E i) E.xx := keep rfl
@[simp ↓] theorem q_kSetT : kSetT E i xs ρ1 = (okSet ρ1 i ∧ ∀ a, E.nx (ρ1.set i (.tre (.lst a (xs.map .leaf))))) := keep rfl
@[simp ↓] theorem q_isTre : isTre ρ i = (match ρ[i]? with
  | some (.tre (.lst _ _)) => True
  | _ => False) := keep rfl
@[simp ↓] theorem q_sAppT : sAppT i te E ρ = (isTre ρ i ∧ te ρ (kAppT E i) E.xx) := keep rfl
@[simp ↓] theorem q_kAppT : kAppT E i d ρ1 = (match ρ1[i]? with
  | some (.tre (.lst a ts)) => ts.length < sizeLine ∧ E.nx (ρ1.set i (.tre (.lst a (ts ++ [.leaf d]))))
  | _ => False) := keep rfl
@[simp ↓] theorem q_sAppTO : sAppTO i te to E ρ = (isTre ρ i ∧ te ρ (kAppTO1 to E i) E.xx) := keep rfl
@[simp ↓] theorem q_kAppTO1 : kAppTO1 to E i d ρ1 = to ρ1 (kAppTO2 E i d) E.xx := keep rfl
@[simp ↓] theorem q_kAppTO2 : kAppTO2 E i d xs ρ2 = (match ρ2[i]? with
  | some (.tre (.lst a ts)) => ts.length < sizeLine ∧ ∀ l, E.nx (ρ2.set i (.tre (.lst a (ts ++ [.tup [.leaf d, .lst l (xs.map .leaf)]]))))
  | _ => False) := keep rfl
@[simp ↓] theorem q_sLendT : sLendT i v1 v2 c w E ρ = (isTre ρ i ∧ v1 ρ (kLendT1 E ρ i c w v2)) := keep rfl
@[simp ↓] theorem q_kLendT1 : kLendT1 E ρ i c w v2 d1 = (∃ j1 a ts n1 us, d1 = .int j1 ∧ ρ[i]? = some (.tre (.lst a ts)) ∧ ixN ts.length j1 = some n1 ∧ ts[n1]? = some (.tup us) ∧ v2 ρ (kLendT2 E ρ i c w a ts n1 us)) := keep rfl
@[simp ↓] theorem q_kLendT2 : kLendT2 E ρ i c w a ts n1 us d2 = (∃ j2 n2 l xs, d2 = .int j2 ∧ ixN us.length j2 = some n2 ∧ us[n2]? = some (.lst l (xs.map .leaf)) ∧ w ρ (kLendT3 E ρ i c a ts n1 us n2 l xs)) := keep rfl
@[simp ↓] theorem q_kLendT3 : kLendT3 E ρ i c a ts n1 us n2 l xs ds = ((∀ d ∈ ds, d.flat = true) ∧ c (.own true xs :: ds.map .dat) (kLendT4 E ρ i a ts n1 us n2 l) kNoX) := keep rfl
@[simp ↓] theorem q_kLendT4 : kLendT4 E ρ i a ts n1 us n2 l (.dat d) (.own true ys :: rest) = E.nx (ρ.set i (.tre (.lst a (ts.set n1 (.tup (us.set n2 (.lst l (ys.map .leaf)))))))) := keep rfl
end
end VS
/-! VSO: a name for a list within a tree, through which it is changed. -/
namespace VS
open PySem PySem.Spec PyProof.Rows L2
/-! ### n = x[j][k] ; and what follows changes this list by its name -/
def kAl3 (E : AEnds) (i n : Nat) (a : Addr) (ts : List Tr) (n1 : Nat) (us : List Tr) (n2 : Nat) (l : Addr) : List Sv → Prop := fun ρ2 => match ρ2[i]?, ρ2[n]? with
  | some (.tre (.hole b)), some (.own true ys) => b = a ∧ E.nx ((ρ2.set n .un).set i (.tre (.lst a (ts.set n1 (.tup (us.set n2 (.lst l (ys.map .leaf))))))))
  | _, _ => False
def kAl2 (E : AEnds) (ρ : List Sv) (i n : Nat) (tb : AS) (a : Addr) (ts : List Tr) (n1 : Nat) (us : List Tr) : D → Prop := fun d2 => ∃ j2 n2 l xs, d2 = .int j2 ∧ ixN us.length j2 = some n2 ∧ us[n2]? = some (.lst l (xs.map .leaf)) ∧ n ≠ i ∧ okSet ρ n ∧
  tb { nx := kAl3 E i n a ts n1 us n2 l, rt := fun _ _ => False } ((ρ.set i (.tre (.hole a))).set n (.own true xs))
def kAl1 (E : AEnds) (ρ : List Sv) (i n : Nat) (v2 : AV) (tb : AS) : D → Prop := fun d1 => ∃ j1 a ts n1 us, d1 = .int j1 ∧ ρ[i]? = some (.tre (.lst a ts)) ∧ ixN ts.length j1 = some n1 ∧ ts[n1]? = some (.tup us) ∧ v2 ρ (kAl2 E ρ i n tb a ts n1 us)
def sAl (i n : Nat) (v1 v2 : AV) (tb : AS) : AS := fun E ρ => isTre ρ i ∧ v1 ρ (kAl1 E ρ i n v2 tb)
/-! ### x.append((e, o if c else e2)), x a tree, o a list of its own -/
def kAppTI3 (E : AEnds) (i : Nat) (d : D) : KD := fun d2 ρ2 => kAppT E i (.tup [d, d2]) ρ2
def kAppTI2 (to : AO) (te2 : AE) (E : AEnds) (i : Nat) (d : D) : Bool → List Sv → Prop := fun c ρ1 => if c = true then to ρ1 (kAppTO2 E i d) E.xx else te2 ρ1 (kAppTI3 E i d) E.xx
def kAppTI1 (tc : AT) (to : AO) (te2 : AE) (E : AEnds) (i : Nat) : KD := fun d ρ1 => tc ρ1 (kAppTI2 to te2 E i d) E.xx
def sAppTI (i : Nat) (te : AE) (tc : AT) (to : AO) (te2 : AE) : AS := fun E ρ => isTre ρ i ∧ te ρ (kAppTI1 tc to te2 E i) E.xx
section
variable {X : Cx} {W : WX} {pos : Pos} {e e1 e2 ec : Expr} {te te2 : AE} {to : AO} {tc : AT}
/-! ### x[j] = e, x a tree -/
def kPutT2 (E : AEnds) (i : Nat) (d : D) : KD := fun k ρ2 => match k, ρ2[i]? with
  | .int k', some (.tre (.lst a ts)) => ∃ n, ixN ts.length k' = some n ∧ E.nx (ρ2.set i (.tre (.lst a (ts.set n (.leaf d)))))
  | _, _ => False
def kPutT1 (tk : AE) (E : AEnds) (i : Nat) : KD := fun d ρ1 => isTre ρ1 i ∧ tk ρ1 (kPutT2 E i d) E.xx
def sPutT (i : Nat) (te tk : AE) : AS := fun E ρ => te ρ (kPutT1 tk E i) E.xx
end
/-! ### rules of simp -/
section
variable {ρ ρ2 : List Sv} {E : AEnds} {i n n1 n2 : Nat} {xs ys : List D} {d d1 d2 : D} {a l : Addr} {ts us : List Tr} {v1 v2 : AV} {tb : AS}
@[simp ↓] theorem q_sAl : sAl i n v1 v2 tb E ρ = (isTre ρ i ∧ v1 ρ (kAl1 E ρ i n v2 tb)) := keep rfl
@[simp ↓] theorem q_kAl1 : kAl1 E ρ i n v2 tb d1 = (∃ j1 a ts n1 us, d1 = .int j1 ∧ ρ[i]? = some (.tre (.lst a ts)) ∧ ixN ts.length j1 = some n1 ∧ ts[n1]? = some (.tup us) ∧ v2 ρ (kAl2 E ρ i n tb a ts n1 us)) := keep rfl
@[simp ↓] theorem q_kAl2 : kAl2 E ρ i n tb a ts n1 us d2 = (∃ j2 n2 l xs, d2 = .int j2 ∧ ixN us.length j2 = some n2 ∧ us[n2]? = some (.lst l (xs.map .leaf)) ∧ n ≠ i ∧ okSet ρ n ∧
  tb { nx := kAl3 E i n a ts n1 us n2 l, rt := fun _ _ => False } ((ρ.set i (.tre (.hole a))).set n (.own true xs))) := keep rfl
@[simp ↓] theorem q_kAl3 : kAl3 E i n a ts n1 us n2 l ρ2 = (match ρ2[i]?, ρ2[n]? with
  | some (.tre (.hole b)), some (.own true ys) => b = a ∧ E.nx ((ρ2.set n .un).set i (.tre (.lst a (ts.set n1 (.tup (us.set n2 (.lst l (ys.map .leaf))))))))
  | _, _ => False) := keep rfl
end
section
variable {ρ ρ1 ρ2 : List Sv} {te te2 tk : AE} {to : AO} {tc : AT} {E : AEnds} {i : Nat} {d d2 : D} {a : Addr} {ts : List Tr} {c : Bool} {k : Int}
@[simp ↓] theorem q_sAppTI : sAppTI i te tc to te2 E ρ = (isTre ρ i ∧ te ρ (kAppTI1 tc to te2 E i) E.xx) := keep rfl
@[simp ↓] theorem q_kAppTI1 : kAppTI1 tc to te2 E i d ρ1 = tc ρ1 (kAppTI2 to te2 E i d) E.xx := keep rfl
@[simp ↓] theorem q_kAppTI2 : kAppTI2 to te2 E i d c ρ1 = (if c = true then to ρ1 (kAppTO2 E i d) E.xx else te2 ρ1 (kAppTI3 E i d) E.xx) := keep rfl
@[simp ↓] theorem q_kAppTI3 : kAppTI3 E i d d2 ρ2 = kAppT E i (.tup [d, d2]) ρ2 := keep rfl
@[simp ↓] theorem q_sPutT : sPutT i te tk E ρ = te ρ (kPutT1 tk E i) E.xx := keep rfl
@[simp ↓] theorem q_kPutT1 : kPutT1 tk E i d ρ1 = (isTre ρ1 i ∧ tk ρ1 (kPutT2 E i d) E.xx) := keep rfl
@[simp ↓] theorem q_kPutT2 : kPutT2 E i d (.int k) ρ2 = (match ρ2[i]? with
  | some (.tre (.lst a ts)) => ∃ n, ixN ts.length k = some n ∧ E.nx (ρ2.set i (.tre (.lst a (ts.set n (.leaf d)))))
  | _ => False) := keep (by
    unfold kPutT2
    rcases ρ2[i]? with _ | (_ | _ | _ | _ | ⟨_ | _ | _ | _⟩) <;> rfl)
end
end VS
/-! VSP: methods with arguments. -/
namespace VS
open PySem PySem.Spec PyProof.Rows L2
section
variable {X : Cx} {W : WX} {o e : Expr} {es : List Expr} {ta : TE} {t : TA} {k : Nat} {C f : Addr} {fd : FuncData} {m : Str} {ps : List Str} {sp : Sp} {ds : List Value} {dvs : List V} {apos pos : Pos}
theorem pe_mgN {pl : Sem Bool} (he : PE X o ta) (c : Cls X.K C) (hm : Meth X.K C m f) (F : FnG X.prog X.w X.K X.mg X.base k f fd ps sp) (rn : Run k X) (hb : Binds X.K fd ps ds) (hd : Vals dvs ds) (tk : L2N.Takes X W) (ha : PA X (e :: es) t)
    (hst : starEach (e :: es) X.env = (false, eval e X.env) :: starEach es X.env := by rfl) (hpl : (backTo pos (starEach es X.env)).any (·.1) = false := by rfl)
    (ht : eval (.Call (.Attribute o m apos) (e :: es) [] pos) X.env = (do
      let ov ← eval o X.env
      standAt apos.atName
      let (f, first) ← holding [ov] (getMethod ov m pl)
      callWith pos f first (backTo pos (starEach (e :: es) X.env)) (backToKw pos (keywordEach [] X.env))) := by rfl) :
    PE X (.Call (.Attribute o m apos) (e :: es) [] pos) (fun σ H Q => ta σ H fun x H1 => ∃ a dx fs, x = .ref a ∧ H1 a = some (.ins C dx fs) ∧ fs.lookup m = none ∧ t σ H1 fun vs H2 => sp ((x :: vs) ++ dvs) H2 Q (WE W σ)) := by
  refine ⟨fun pins s σ H Q I h => ?_⟩
  refine PySem.W.methodCall_KW (pl := pl) (thn (he.run pins s σ H _ I h) fun u s1 ⟨x, H1, I1, rx, a, dx, fs, ex, ea, l, q⟩ => ?_) ht
  subst ex
  obtain rfl : u = Value.ref a := rx
  refine getmeth_ok I1 ea c hm l ?_
  refine PySem.W.callWith_K (first := [.ref a]) (h₀ := X.base) I.ok.mod.kin hm.kp (thn (ha.run pos pins s1 σ H1 _ I1 q) fun us s2 ⟨vs, H2, I2, r, q2⟩ => ⟨I2.kIn, ?_⟩) hst hpl
  exact run_g (us := .ref a :: us) (vs := .ref a :: vs) F rn hb hd tk I2 (.cons rfl r) q2
end
section
variable {X : Cx} {W : WX} {o e : Expr} {es : List Expr} {ta : AE} {ua : AA} {k : Nat} {c m : Str} {ps : List Str} {ctr : Ctr} {apos pos : Pos}
def kMethN2 (Q : KD) (Z : KX) (ctr : Ctr) (n : Nat) (d : D) : List D → List Sv → Prop := fun ds ρ2 => ds.length + 1 = n ∧ ctr (.dat d :: ds.map .dat) (kMethR Q ρ2) (kMethX Z ρ2)
def kMethN1 (Q : KD) (Z : KX) (c m : Str) (n : Nat) (ctr : Ctr) (ua : AA) : KD := fun d ρ1 => match d with
  | .obj c' ns xs => c' = c ∧ isX ns = false ∧ m ∉ ns ∧ ua ρ1 (kMethN2 Q Z ctr n (.obj c' ns xs)) Z
  | _ => False
def aMethN (c m : Str) (n : Nat) (ctr : Ctr) (ta : AE) (ua : AA) : AE := fun ρ Q Z => ta ρ (kMethN1 Q Z c m n ctr ua) Z
end
section
variable {ρ ρ1 ρ2 : List Sv} {Q : KD} {Z : KX} {ta : AE} {ua : AA} {c m : Str} {n : Nat} {ctr : Ctr} {ns : List Str} {xs ds : List D} {d : D}
@[simp ↓] theorem q_aMethN : aMethN c m n ctr ta ua ρ Q Z = ta ρ (kMethN1 Q Z c m n ctr ua) Z := keep rfl
@[simp ↓] theorem q_kMethN1 {c' : Str} : kMethN1 Q Z c m n ctr ua (.obj c' ns xs) ρ1 = (c' = c ∧ isX ns = false ∧ m ∉ ns ∧ ua ρ1 (kMethN2 Q Z ctr n (.obj c' ns xs)) Z) := keep rfl
@[simp ↓] theorem q_kMethN2 : kMethN2 Q Z ctr n d ds ρ2 = (ds.length + 1 = n ∧ ctr (.dat d :: ds.map .dat) (kMethR Q ρ2) (kMethX Z ρ2)) := keep rfl
end
end VS
/-! VSQ: objects made by an __init__ that computes. -/
namespace VS
open PySem PySem.Spec PyProof.Rows L2
/-! ### the call of a class -/
section
variable {X : Cx} {W : WX} {e : Expr} {es : List Expr} {t : TA} {k : Nat} {C f : Addr} {fd : FuncData} {x : Str} {ps : List Str} {sp : Sp} {ds : List Value} {dvs : List V} {p pos : Pos}
theorem run_makeG {pins : List (Addr × Obj)} {σ : St} {H : Hp} {s : Shared} {Q : VK} {us : List Value} {vs : List V} (M : Mk X.K C f) (F : FnG X.prog X.w X.K X.mg X.base k f fd ps sp) (rn : Run (k + 1) X) (hb : Binds X.K fd ps ds) (hd : Vals dvs ds)
    (tk : L2N.Takes X W) (I : Inv X pins σ H s) (r : Vals vs us)
    (h : ∀ x dx, H x = none → H dx = none → dx ≠ x → sp (.ref x :: (vs ++ dvs)) (upd (upd H dx (.own x)) x (.ins C dx [])) (fun v H2 => v = .non ∧ Q (.ref x) H2) (WE W σ)) :
    wpAny (model X.prog X.w) X.A (call (.ref C) us) (EP X pins σ Q) X.xe s := by
  have hq := h (s.heap.objs.size + 1) s.heap.objs.size (I.hok.fresh (Nat.le_succ _)) (I.hok.fresh (Nat.le_refl _)) (Nat.ne_of_lt (Nat.lt_succ_self _))
  have I2 := Inv.made (C := C) I
  have r2 : Vals (V.ref (s.heap.objs.size + 1) :: (vs ++ dvs)) (Value.ref (s.heap.objs.size + 1) :: (us ++ ds)) := .cons rfl (r.append hd)
  have hl : (Value.ref (s.heap.objs.size + 1) :: us ++ ds).length = ps.length := by
    have e := r2.length
    rw [F.len _ _ _ _ hq] at e
    exact e.symm
  refine wpAny_call (make_map (f := f) I.kIn M.makes M.init (beq_iff_eq.mp M.fn) (codeAny_mono (F.run _ X.stack _ _ ⟨Value.ref (s.heap.objs.size + 1) :: us, []⟩ (Value.ref (s.heap.objs.size + 1) :: (us ++ ds)) _ _ (WE W σ) (rn.hr.make C us []) rn.hg
    (I2.env0.make C us []) (hb _ (Value.ref (s.heap.objs.size + 1) :: us) I2.kIn hl) r2 hq) fun r s' hq' => ?_))
  cases r with
  | error e => exact L2N.passAt tk σ pins _ _ e s' I2 hq'
  | ok fl =>
    cases fl with
    | ret u =>
      obtain ⟨v, H', I3, rv, ev, q3⟩ := I2.after hq'
      subst ev
      exact ⟨rv, ⟨V.ref (s.heap.objs.size + 1), H', I3, rfl, q3⟩⟩
    | next => exact False.elim hq'
    | brk => exact False.elim hq'
    | cont => exact False.elim hq'
end
section
variable {K : PySem.W.Frag} {G F : Hp} {ρ : List Sv} {σ : St} {H : Hp}
/-- one more slot at the front -/
theorem Rel.consU (R : Rel K [] G F ρ σ H) (v : Option V) : Rel K [] G F (.un :: ρ) (v :: σ) H := by
  have up : ∀ {i : Nat} {s : Sv}, s ≠ .un → (Sv.un :: ρ)[i]? = some s → ∃ j, i = j + 1 ∧ ρ[j]? = some s := fun {i s} hs e => by
    cases i with
    | zero => exact absurd (Option.some.inj e).symm hs
    | succ j => exact ⟨j, rfl, e⟩
  refine ⟨by rw [List.length_cons, List.length_cons, R.len], R.sg, R.sf, R.gf, fun i d e => ?_, fun i b xs e => ?_, fun i j a b xs c ys e1 e2 e3 e4 => ?_, fun p hp => (by cases hp), fun i xs e => ?_, ⟨fun i t e => ?_, fun i t j c ys a e1 e2 e3 => ?_, fun i t j u e1 e2 hne => ?_⟩⟩
  · obtain ⟨j, rfl, e⟩ := up (by simp) e
    exact R.dat j d e
  · obtain ⟨j, rfl, e⟩ := up (by simp) e
    exact R.own j b xs e
  · obtain ⟨i, rfl, e1⟩ := up (by simp) e1
    obtain ⟨j, rfl, e2⟩ := up (by simp) e2
    rw [R.ne i j a b xs c ys e1 e2 e3 e4]
  · obtain ⟨j, rfl, e⟩ := up (by simp) e
    obtain ⟨a, ha⟩ := R.pinc j xs e
    cases ha
  · obtain ⟨j, rfl, e⟩ := up (by simp) e
    exact R.tr.got j t e
  · obtain ⟨i, rfl, e1⟩ := up (by simp) e1
    obtain ⟨j, rfl, e2⟩ := up (by simp) e2
    exact R.tr.own i t j c ys a e1 e2 e3
  · obtain ⟨i, rfl, e1⟩ := up (by simp) e1
    obtain ⟨j, rfl, e2⟩ := up (by simp) e2
    exact R.tr.ne i t j u e1 e2 fun z => hne (by rw [z])
end
/-- the class x: its __init__ keeps the contract ctr -/
structure MkI (P : Program) (w : World) (K : PySem.W.Frag) (mg : Str → Option Value) (base : Heap) (k : Nat) (x : Str) (ps : List Str) (ctr : Ctr) : Prop where
  ex : ∃ (C f : Addr) (fd : FuncData), Mk K C f ∧ FnG P w K mg base k f fd ps (spV K ps.length ctr) ∧ mg x = some (.ref C) ∧ PySem.W.nsIn K mainGlobals x = some (some (.ref C)) ∧ Binds K fd ps []
def kMakeR (Q : KD) (ρ1 : List Sv) (a : Addr) (c : Str) : Sv → List Sv → Prop := fun r ρp => match r, ρp with
  | .dat .non, .tre (.ob y c' ns ts) :: _ => y = a ∧ c' = c ∧ ∃ ds : List D, ts = ds.map .leaf ∧ Q (.obj c ns ds) ρ1
  | _, _ => False
def kMakeX (Z : KX) (ρ1 : List Sv) : Exc → List Sv → Prop := fun x _ => Z x ρ1
def kMakeI (Q : KD) (Z : KX) (c : Str) (n : Nat) (ctr : Ctr) : List D → List Sv → Prop := fun ds ρ1 => ds.length + 1 = n ∧ ∀ a : Addr, ctr (.tre (.ob a c [] []) :: ds.map .dat) (kMakeR Q ρ1 a c) (kMakeX Z ρ1)
def aMakeI (c : Str) (n : Nat) (ctr : Ctr) (t : AA) : AE := fun ρ Q Z => t ρ (kMakeI Q Z c n ctr) Z
/-! ### in an __init__: self.f = e, self.f -/
def kFldI (E : AEnds) (i : Nat) (c f : Str) : KD := fun d ρ1 => match ρ1[i]? with
  | some (.tre (.ob a c' ns ts)) => c' = c ∧ f ∉ ns ∧ ns.length < 900 ∧ isX (ns ++ [f]) = false ∧ E.nx (ρ1.set i (.tre (.ob a c' (ns ++ [f]) (ts ++ [.leaf d]))))
  | _ => False
def sFldI (i : Nat) (c f : Str) (te : AE) : AS := fun E ρ => te ρ (kFldI E i c f) E.xx
theorem TRL.look {K : PySem.W.Frag} {G H : Hp} {f : Str} : ∀ {ns : List Str} {ts : List Tr} {vs : List V} {d : D}, TRL K G H ts vs → (ns.zip ts).lookup f = some (.leaf d) → ∃ v, (ns.zip vs).lookup f = some v ∧ Rp K G d v
  | [], _, _, _, _, e => by simp at e
  | _ :: _, [], _, _, _, e => by simp at e
  | n :: ns, t :: ts, _, d, h, e => by
    obtain ⟨v, r, rfl, h2, h3⟩ := trl_cons.mp h
    rw [List.zip_cons_cons, List.lookup_cons] at e ⊢
    by_cases hn : (f == n) = true
    · rw [hn] at e ⊢
      cases e
      exact ⟨v, rfl, tr_leaf.mp h2⟩
    · rw [Bool.not_eq_true] at hn
      rw [hn] at e ⊢
      exact TRL.look h3 e
theorem zip_snoc {ns : List Str} {vs : List V} {f : Str} {v : V} (h : ns.length = vs.length) : ns.zip vs ++ [(f, v)] = (ns ++ [f]).zip (vs ++ [v]) := by
  rw [List.zip_append h]
  rfl
theorem zip_out {f : Str} : ∀ {ns : List Str} {vs : List V}, f ∉ ns → f ∉ (ns.zip vs).map (·.1)
  | [], _, _ => by simp
  | _ :: _, [], _ => by simp
  | n :: ns, v :: vs, h => by
    rw [List.mem_cons, not_or] at h
    rw [List.zip_cons_cons, List.map_cons, List.mem_cons, not_or]
    exact ⟨h.1, zip_out h.2⟩
section
variable {ρ ρ1 : List Sv} {Q : KD} {Z : KX} {te : AE} {aa : AA} {c f : Str} {i n : Nat} {ctr : Ctr} {ds : List D} {d : D} {E : AEnds} {a : Addr} {ns : List Str} {ts : List Tr} {rest : List Sv} {x : Exc} {ρp : List Sv}
@[simp ↓] theorem q_aMakeI : aMakeI c n ctr aa ρ Q Z = aa ρ (kMakeI Q Z c n ctr) Z := keep rfl
@[simp ↓] theorem q_kMakeI : kMakeI Q Z c n ctr ds ρ1 = (ds.length + 1 = n ∧ ∀ a : Addr, ctr (.tre (.ob a c [] []) :: ds.map .dat) (kMakeR Q ρ1 a c) (kMakeX Z ρ1)) := keep rfl
@[simp ↓] theorem q_kMakeR {y : Addr} {c' : Str} : kMakeR Q ρ1 a c (.dat .non) (.tre (.ob y c' ns ts) :: rest) = (y = a ∧ c' = c ∧ ∃ ds : List D, ts = ds.map .leaf ∧ Q (.obj c ns ds) ρ1) := keep rfl
@[simp ↓] theorem q_kMakeX : kMakeX Z ρ1 x ρp = Z x ρ1 := keep rfl
@[simp ↓] theorem q_sFldI : sFldI i c f te E ρ = te ρ (kFldI E i c f) E.xx := keep rfl
@[simp ↓] theorem q_kFldI : kFldI E i c f d ρ1 = (match ρ1[i]? with
  | some (.tre (.ob a c' ns ts)) => c' = c ∧ f ∉ ns ∧ ns.length < 900 ∧ isX (ns ++ [f]) = false ∧ E.nx (ρ1.set i (.tre (.ob a c' (ns ++ [f]) (ts ++ [.leaf d]))))
  | _ => False) := keep rfl
end
end VS
/-! VSR: max(xs, default=d) of a list of ints. -/
namespace VS
open PySem PySem.Spec PyProof.Rows L2
section
variable {X : Cx} {W : WX} {a b : Expr} {ta tb : AE} {p pos kp : Pos}
def maxOr : List Int → D → D
  | [], d => d
  | n :: ns, _ => .int (ns.foldl max n)
def kMaxD2 (Q : KD) (x : D) : KD := fun d ρ2 => match x with
  | .lst xs => ∃ ns, intsOf xs = some ns ∧ Q (maxOr ns d) ρ2
  | _ => False
def kMaxD1 (Q : KD) (Z : KX) (tb : AE) : KD := fun x ρ1 => tb ρ1 (kMaxD2 Q x) Z
def aMaxD (ta tb : AE) : AE := fun ρ Q Z => ta ρ (kMaxD1 Q Z tb) Z
end
section
variable {ρ ρ1 : List Sv} {Q : KD} {Z : KX} {ta tb : AE} {x d : D} {xs : List D}
@[simp ↓] theorem q_aMaxD : aMaxD ta tb ρ Q Z = ta ρ (kMaxD1 Q Z tb) Z := keep rfl
@[simp ↓] theorem q_kMaxD1 : kMaxD1 Q Z tb x ρ1 = tb ρ1 (kMaxD2 Q x) Z := keep rfl
@[simp ↓] theorem q_kMaxD2 : kMaxD2 Q (.lst xs) d ρ1 = (∃ ns, intsOf xs = some ns ∧ Q (maxOr ns d) ρ1) := keep rfl
end
end VS
/-! VSS: sorted of lists of ints (as items), of texts, of ints; any length. -/
namespace VS
open PySem PySem.Spec PyProof.Rows L2
section
variable {X : Cx}
/-- rows of ints, texts, or ints -/
def bSortA : List D → (D → Prop) → Prop
  | [.lst ds], Q => (∃ nss : List (List Int), ds = nss.map (fun ns => .lst (ns.map .int)) ∧ ∀ nss' : List (List Int), nss'.Perm nss → nss'.Pairwise (· ≤ ·) → Q (.lst (nss'.map fun ns => .lst (ns.map .int)))) ∨
    (∃ xs : List Str, ds = xs.map .str ∧ ∀ xs' : List Str, xs'.Perm xs → xs'.Pairwise (fun a b => a.cps.toList ≤ b.cps.toList) → Q (.lst (xs'.map .str))) ∨
    ∃ ns : List Int, ds = ns.map .int ∧ ∀ ns' : List Int, ns'.Perm ns → ns'.Pairwise (· ≤ ·) → Q (.lst (ns'.map .int))
  | _, _ => False
/-- sorted(x), x an own list -/
def kSorted (Q : KD) (ρ : List Sv) : D → Prop := fun d => Q d ρ
def kSortO (Q : KD) (ρ : List Sv) : Option Sv → Prop
  | some (.own _ xs) => bSortA [.lst xs] (kSorted Q ρ)
  | _ => False
def aSortO (i : Nat) : AE := fun ρ Q _ => kSortO Q ρ ρ[i]?
@[simp ↓] theorem q_aSortO {i : Nat} {ρ : List Sv} {Q : KD} {Z : KX} : aSortO i ρ Q Z = kSortO Q ρ ρ[i]? := keep rfl
@[simp ↓] theorem q_kSortO {ρ : List Sv} {Q : KD} {b : Bool} {xs : List D} : kSortO Q ρ (some (.own b xs)) = bSortA [.lst xs] (kSorted Q ρ) := keep rfl
@[simp ↓] theorem q_kSorted {ρ : List Sv} {Q : KD} {d : D} : kSorted Q ρ d = Q d ρ := keep rfl
@[simp ↓] theorem q_bSortA {ds : List D} {Q : D → Prop} : bSortA [.lst ds] Q = ((∃ nss : List (List Int), ds = nss.map (fun ns => .lst (ns.map .int)) ∧ ∀ nss' : List (List Int), nss'.Perm nss → nss'.Pairwise (· ≤ ·) → Q (.lst (nss'.map fun ns => .lst (ns.map .int)))) ∨
    (∃ xs : List Str, ds = xs.map .str ∧ ∀ xs' : List Str, xs'.Perm xs → xs'.Pairwise (fun a b => a.cps.toList ≤ b.cps.toList) → Q (.lst (xs'.map .str))) ∨
    ∃ ns : List Int, ds = ns.map .int ∧ ∀ ns' : List Int, ns'.Perm ns → ns'.Pairwise (· ≤ ·) → Q (.lst (ns'.map .int))) := keep rfl
end
end VS
/-! VST: an own list that is data for some statements, and one's own again behind them. -/
namespace VS
open PySem PySem.Spec PyProof.Rows L2
def zSeq (t : AS) (u : Addr → List D → AS) : Addr → List D → AS := fun a xs D ρ => t { D with nx := u a xs D } ρ
def sFrz (i : Nat) (t : Addr → List D → AS) : AS := fun D ρ => match ρ[i]? with
  | some (.own false xs) => ∀ a, t a xs D (ρ.set i (.tre (.frz a (.lst xs))))
  | _ => False
section
variable {D : AEnds} {ρ : List Sv} {t : AS} {u : Addr → List VS.D → AS} {a : Addr} {xs : List VS.D} {i : Nat} {dr : List Nat}
def kFrz2 (u : Addr → List VS.D → AS) (i : Nat) (D : AEnds) (ρ : List Sv) : Option Sv → Prop
  | some (.own false xs) => ∀ a, u a xs D (ρ.set i (.tre (.frz a (.lst xs))))
  | _ => False
@[simp ↓] theorem q_sFrz : sFrz i u D ρ = kFrz2 u i D ρ ρ[i]? := by
  unfold sFrz kFrz2
  rfl
@[simp ↓] theorem q_kFrz2 : kFrz2 u i D ρ (some (.own false xs)) = ∀ a, u a xs D (ρ.set i (.tre (.frz a (.lst xs)))) := keep rfl
@[simp ↓] theorem q_zSeq : zSeq t u a xs D ρ = t { D with nx := u a xs D } ρ := keep rfl
end
/-! ### .. where a list stays of which some items are known -/
section
variable {X : Cx} {W : WX}
def kPrt (Q : D → Prop) (s : Option Sv) : D → Prop
  | .int k => (match s with
    | some (.tre (.part os)) => ∃ n d, ixN os.length k = some n ∧ os[n]? = some (some d) ∧ Q d
    | _ => False)
  | _ => False
def vPart (i : Nat) (tk : AV) : AV := fun ρ Q => (∃ os, ρ[i]? = some (.tre (.part os))) ∧ tk ρ (kPrt Q ρ[i]?)
end
section
variable {D : AEnds} {ρ : List Sv} {Q : VS.D → Prop} {i : Nat} {tk : AV} {k : Int} {os : List (Option VS.D)}
@[simp ↓] theorem q_vPart : vPart i tk ρ Q = ((∃ os, ρ[i]? = some (.tre (.part os))) ∧ tk ρ (kPrt Q ρ[i]?)) := keep rfl
@[simp ↓] theorem q_kPrt : kPrt Q (some (.tre (.part os))) (.int k) = ∃ n d, ixN os.length k = some n ∧ os[n]? = some (some d) ∧ Q d := keep rfl
end
end VS
/-! VSU: the set of a list of ints, sorted. -/
/-! VSV: sorted(set(a list of ints)). -/
namespace VS
open PySem PySem.Spec PyProof.Rows L2
section
variable {X : Cx}
variable {W : WX} {e : Expr} {te : AE}
def kSrtS (Q : KD) : KD := fun d ρ1 => ∃ zs ms : List Int, d = .lst (zs.map .int) ∧ zs.length < 4000 ∧ (∀ z ∈ zs, z ∈ ms) ∧ ms.length < 64 ∧ ∀ ns : List Int, ns.Pairwise (· < ·) → (∀ k, k ∈ ns ↔ k ∈ zs) → Q (.lst (ns.map .int)) ρ1
def aSrtS (te : AE) : AE := fun ρ Q Z => te ρ (kSrtS Q) Z
@[simp ↓] theorem q_aSrtS {ρ : List Sv} {Q : KD} {Z : KX} : aSrtS te ρ Q Z = te ρ (kSrtS Q) Z := keep rfl
@[simp ↓] theorem q_kSrtS {ρ : List Sv} {Q : KD} {ds : List D} : kSrtS Q (.lst ds) ρ = (∃ zs ms : List Int, D.lst ds = .lst (zs.map .int) ∧ zs.length < 4000 ∧ (∀ z ∈ zs, z ∈ ms) ∧ ms.length < 64 ∧ ∀ ns : List Int, ns.Pairwise (· < ·) → (∀ k, k ∈ ns ↔ k ∈ zs) → Q (.lst (ns.map .int)) ρ) := keep rfl
end
end VS
/-! VSW: max(xs); a statement read in two ways. -/
namespace VS
open PySem PySem.Spec PyProof.Rows L2
def bMax1 : List D → (D → Prop) → Prop
  | [.lst xs], Q => ∃ ns, intsOf xs = some ns ∧ ns ≠ [] ∧ Q (maxOr ns .non)
  | _, _ => False
@[simp ↓] theorem q_bMax1 {xs : List D} {Q : D → Prop} : bMax1 [.lst xs] Q = (∃ ns, intsOf xs = some ns ∧ ns ≠ [] ∧ Q (maxOr ns .non)) := keep rfl
/-- either reading will do -/
def sOr (t u : AS) : AS := fun E ρ => t E ρ ∨ u E ρ
@[simp ↓] theorem q_sOr {t u : AS} {E : AEnds} {ρ : List Sv} : sOr t u E ρ = (t E ρ ∨ u E ρ) := keep rfl
end VS
/-! VSX: isinstance(None, a class of errors). -/
/-! VSY: sorted(set(a text)). -/
namespace VS
open PySem PySem.Spec PyProof.Rows L2
open PySem.Froz (TxOk addTx SD sObj sing tailTx)
section
variable {X : Cx}
variable {W : WX} {e : Expr} {te : AE}
def kSrtX (Q : KD) : KD := fun d ρ1 => match d with
  | .str x => x.length < 64 ∧ ∀ ys : List Str, ys.Nodup → sortedS ys = true → (∀ z, z ∈ ys ↔ ∃ c ∈ x.cps.toList, z = sing c) → Q (.lst (ys.map .str)) ρ1
  | _ => False
def aSrtX (te : AE) : AE := fun ρ Q Z => te ρ (kSrtX Q) Z
@[simp ↓] theorem q_aSrtX {ρ : List Sv} {Q : KD} {Z : KX} : aSrtX te ρ Q Z = te ρ (kSrtX Q) Z := keep rfl
@[simp ↓] theorem q_kSrtX {ρ : List Sv} {Q : KD} {x : Str} : kSrtX Q (.str x) ρ = (x.length < 64 ∧ ∀ ys : List Str, ys.Nodup → sortedS ys = true → (∀ z, z ∈ ys ↔ ∃ c ∈ x.cps.toList, z = sing c) → Q (.lst (ys.map .str)) ρ) := keep rfl
end
end VS
/-! VSZ: any expression that only reads, as a view; lists of lists of one's own: made by comprehensions and displays, walked by names for their lists, changed through such names and by places. -/
namespace VS
open PySem PySem.Spec PyProof.Rows L2
/-! ### all slots as data -/
def Tr.all : Tr → Sv
  | .hole _ => .un
  | .part _ => .un
  | t => .dat t.strip
def Sv.all : Sv → Sv
  | .dat d => .dat d
  | .own _ xs => .dat (.lst xs)
  | .tre t => t.all
  | _ => .un
section
variable {K : PySem.W.Frag} {P : List (Nat × Addr)} {G F : Hp} {ρ : List Sv} {σ : St} {H : Hp}
theorem all_dat {s : Sv} {d : D} (h : s.all = .dat d) : s = .dat d ∨ (∃ b xs, s = .own b xs ∧ d = .lst xs) ∨ ∃ t, s = .tre t ∧ t.shut ∧ d = t.strip := by
  cases s with
  | un => cases h
  | dat e => cases h; exact .inl rfl
  | own b xs => cases h; exact .inr (.inl ⟨b, xs, rfl, rfl⟩)
  | pr _ _ => cases h
  | tre t => cases t <;> first | (cases h; done) | (cases h; exact .inr (.inr ⟨_, rfl, trivial, rfl⟩))
theorem all_own {s : Sv} {b : Bool} {xs : List D} (h : s.all = .own b xs) : False := by
  cases s <;> first | (cases h; done) | skip
  rename_i t
  cases t <;> cases h
theorem all_tre {s : Sv} {t : Tr} (h : s.all = .tre t) : False := by
  cases s <;> first | (cases h; done) | skip
  rename_i t
  cases t <;> cases h
theorem get_all {i : Nat} {s : Sv} (h : (ρ.map Sv.all)[i]? = some s) : ∃ u, ρ[i]? = some u ∧ u.all = s := by
  rw [List.getElem?_map] at h
  cases e : ρ[i]? with
  | none => rw [e] at h; cases h
  | some u => rw [e] at h; exact ⟨u, rfl, Option.some.inj h⟩
theorem Rel.all (R : Rel K P G F ρ σ H) : Rel K [] H (fun _ => none) (ρ.map Sv.all) σ H := by
  have no : ∀ {i : Nat} {b : Bool} {xs : List D}, ¬ (ρ.map Sv.all)[i]? = some (.own b xs) := fun h => by
    obtain ⟨u, _, h2⟩ := get_all h
    exact all_own h2
  have nt : ∀ {i : Nat} {t : Tr}, ¬ (ρ.map Sv.all)[i]? = some (.tre t) := fun h => by
    obtain ⟨u, _, h2⟩ := get_all h
    exact all_tre h2
  refine ⟨by rw [List.length_map]; exact R.len, Same.refl _, (fun _ _ z => nomatch z), (fun _ _ z => nomatch z), fun i d h => ?_, fun i b xs h => (no h).elim, fun i j a b xs c ys h => (no h).elim, (fun p hp => nomatch hp), fun i xs h => (no h).elim, ⟨fun i t h => (nt h).elim, fun i t j c ys a h => (nt h).elim, fun i t j u h => (nt h).elim⟩⟩
  obtain ⟨u, h1, h2⟩ := get_all h
  rcases all_dat h2 with rfl | ⟨b, xs, rfl, rfl⟩ | ⟨t, rfl, ht, rfl⟩
  · obtain ⟨v, g1, g2⟩ := R.dat i d h1
    exact ⟨v, g1, g2.mono R.sg⟩
  · obtain ⟨a, vs, g1, g2, g3, g4, g5⟩ := R.own i b xs h1
    exact ⟨_, g1, rp_lst.mpr ⟨a, vs, rfl, SqL.of g2, g5.mono R.sg⟩⟩
  · obtain ⟨v, g1, g2, _, _⟩ := R.tr.got i t h1
    exact ⟨v, g1, (g2.tr ht).rp R.sg fun _ _ => rfl⟩
end
def kAllV (Q : D → Prop) : KD := fun d _ => Q d
def vAll (te : AE) : AV := fun ρ Q => te (ρ.map Sv.all) (kAllV Q) noX
@[simp ↓] theorem q_vAll {te : AE} {ρ : List Sv} {Q : D → Prop} : vAll te ρ Q = te (ρ.map Sv.all) (kAllV Q) noX := keep rfl
@[simp ↓] theorem q_kAllV {ρ : List Sv} {Q : D → Prop} {d : D} : kAllV Q d ρ = Q d := keep rfl
@[simp] theorem all_s1 {d : D} : (Sv.dat d).all = .dat d := rfl
@[simp] theorem all_s2 {b : Bool} {xs : List D} : (Sv.own b xs).all = .dat (.lst xs) := rfl
@[simp] theorem all_s3 : Sv.un.all = .un := rfl
@[simp] theorem all_s4 {a : Addr} {ts : List Tr} : (Sv.tre (.lst a ts)).all = .dat (Tr.lst a ts).strip := rfl
@[simp] theorem all_s5 {a : Addr} : (Sv.tre (.hole a)).all = .un := rfl
@[simp] theorem all_s6 {a : Addr} {c : Str} {ns : List Str} {ts : List Tr} : (Sv.tre (.ob a c ns ts)).all = .dat (Tr.ob a c ns ts).strip := rfl
section
variable {K : PySem.W.Frag} {P : List (Nat × Addr)} {G G' F F' : Hp} {ρ : List Sv} {σ : St} {H H' : Hp}
/-- lists of their own, standing in the frame -/
def LL (K : PySem.W.Frag) (G F Fx : Hp) : List (Addr × List D) → List V → Prop
  | [], us => us = []
  | p :: ps, us => ∃ r, us = .ref p.1 :: r ∧ F p.1 = none ∧ (∃ vs, Fx p.1 = some (.lst vs) ∧ RpL K G p.2 vs) ∧ LL K G F Fx ps r
theorem LL.mono (s : Same G G') {Fx Fy : Hp} : ∀ {ps : List (Addr × List D)} {us : List V}, (∀ p ∈ ps, ∀ o, Fx p.1 = some o → Fy p.1 = some o) → LL K G F Fx ps us → LL K G' F Fy ps us
  | [], us, _, h => h
  | p :: ps, us, k, h => by
    obtain ⟨r, h1, h2, ⟨vs, h3, h4⟩, h5⟩ := h
    exact ⟨r, h1, h2, ⟨vs, k p (List.mem_cons_self ..) _ h3, h4.mono s⟩, h5.mono s fun q hq => k q (List.mem_cons_of_mem _ hq)⟩
theorem LL.length {Fx : Hp} : ∀ {ps : List (Addr × List D)} {us : List V}, LL K G F Fx ps us → ps.length = us.length
  | [], us, h => by rw [show us = [] from h]; rfl
  | p :: ps, us, h => by
    obtain ⟨r, h1, _, _, h5⟩ := h
    rw [h1, List.length_cons, List.length_cons, h5.length]
theorem LL.mem {Fx : Hp} : ∀ {ps : List (Addr × List D)} {us : List V} {p : Addr × List D}, LL K G F Fx ps us → p ∈ ps → F p.1 = none ∧ ∃ vs, Fx p.1 = some (.lst vs) ∧ RpL K G p.2 vs
  | q :: ps, us, p, h, hp => by
    obtain ⟨r, h1, h2, h3, h5⟩ := h
    rcases List.mem_cons.mp hp with rfl | hp
    · exact ⟨h2, h3⟩
    · exact h5.mem hp
def llT (p : Addr × List D) : Tr := .lst p.1 (p.2.map .leaf)
end
/-! ### x = [o for .. in ..], o a list of its own -/
def kCompT2 (next : List (Addr × List D) → List Sv → Prop) (acc : List (Addr × List D)) (ρ : List Sv) (vs : List Nat) : List D → List Sv → Prop := fun xs ρ3 => acc.length < sizeLine ∧ ∀ b, next (acc ++ [(b, xs)]) (restA ρ ρ3 vs)
def aCompT (g : AG) (tt : AT) (to : AO) (vs : List Nat) (Q : List (Addr × List D) → List Sv → Prop) : List D → List (Addr × List D) → List Sv → Prop
  | [], acc, ρ => Q acc ρ
  | d :: ds, acc, ρ => g d (wipeA ρ vs) fun ρ1 => tt ρ1 (fun b ρ2 => if b = true then to ρ2 (kCompT2 (aCompT g tt to vs Q ds) acc ρ vs) noX else aCompT g tt to vs Q ds acc (restA ρ ρ2 vs)) noX
def kSetTC (E : AEnds) (i : Nat) : List (Addr × List D) → List Sv → Prop := fun ps ρ1 => okSet ρ1 i ∧ ∀ a, E.nx (ρ1.set i (.tre (.lst a (ps.map llT))))
def iSetTC (g : AG) (tt : AT) (to : AO) (vs : List Nat) (E : AEnds) (i : Nat) : List D → List Sv → Prop := fun ds ρ1 => (∀ i ∈ vs, noOwn ρ1 i) ∧ aCompT g tt to vs (kSetTC E i) ds [] ρ1
def sSetTC (ti : AI) (g : AG) (tt : AT) (to : AO) (vs : List Nat) (i : Nat) : AS := fun E ρ => ti ρ (iSetTC g tt to vs E i) E.xx
section
variable {E : AEnds} {g : AG} {tt : AT} {to : AO} {vs : List Nat} {ti : AI} {i : Nat} {ρ : List Sv} {Q : List (Addr × List D) → List Sv → Prop} {acc : List (Addr × List D)} {d : D} {ds xs : List D}
@[simp ↓] theorem q_sSetTC : sSetTC ti g tt to vs i E ρ = ti ρ (iSetTC g tt to vs E i) E.xx := keep rfl
@[simp ↓] theorem q_iSetTC : iSetTC g tt to vs E i ds ρ = ((∀ i ∈ vs, noOwn ρ i) ∧ aCompT g tt to vs (kSetTC E i) ds [] ρ) := keep rfl
@[simp ↓] theorem q_kSetTC : kSetTC E i acc ρ = (okSet ρ i ∧ ∀ a, E.nx (ρ.set i (.tre (.lst a (acc.map llT))))) := keep rfl
@[simp ↓] theorem q_kCompT2 {next : List (Addr × List D) → List Sv → Prop} {ρ3 : List Sv} : kCompT2 next acc ρ vs xs ρ3 = (acc.length < sizeLine ∧ ∀ b, next (acc ++ [(b, xs)]) (restA ρ ρ3 vs)) := keep rfl
end
end VS
/-! VS0: lists of lists of one's own: walked by names, changed through names and by places; [o, o] as a tree. -/
namespace VS
open PySem PySem.Spec PyProof.Rows L2
/-! ### for n in x[lo:hi], n a name for list after list of x -/
def Tr.adr : Tr → Addr
  | .lst b _ => b
  | _ => 0
def Tr.isL : Tr → Prop
  | .lst _ _ => True
  | _ => False
def cutA (bs : List Addr) (lo hi : Option Int) : List Addr := (bs.drop (HT.sIx bs.length 0 lo)).take (HT.sIx bs.length bs.length hi - HT.sIx bs.length 0 lo)
def kEndH (n : Nat) (D : AEnds) : List Sv → Prop := fun ρ => okSet ρ n ∧ D.nx (ρ.set n .un)
def aLoopH (n : Nat) (tb : AS) (D : AEnds) : List Addr → List Sv → Prop
  | [], ρ => okSet ρ n ∧ D.nx (ρ.set n .un)
  | b :: bs, ρ => okSet ρ n ∧ tb { D with nx := aLoopH n tb D bs, ct := aLoopH n tb D bs, bk := kEndH n D } (ρ.set n (.tre (.hole b)))
def kForH2 (E : AEnds) (i n : Nat) (tb : AS) (l : Option Int) : Option Int → List Sv → Prop := fun u ρ3 => match ρ3[i]? with
  | some (.tre (.lst _ ts)) => (∀ t ∈ ts, t.isL) ∧ aLoopH n tb E (cutA (ts.map Tr.adr) l u) ρ3
  | _ => False
def kForH1 (E : AEnds) (i n : Nat) (th : AP) (tb : AS) : Option Int → List Sv → Prop := fun l ρ2 => th ρ2 (kForH2 E i n tb l) E.xx
def sForH (i n : Nat) (tl th : AP) (tb : AS) : AS := fun E ρ => isTre ρ i ∧ tl ρ (kForH1 E i n th tb) E.xx
section
variable {X : Cx} {W : WX} {pos p1 p2 p3 : Pos} {e ek : Expr} {te tk : AE}
/-! ### n[k] = e, n a name for a list of x -/
def kPutH2 (E : AEnds) (i n : Nat) (d : D) : KD := fun k ρ2 => match k, ρ2[i]?, ρ2[n]? with
  | .int k', some (.tre (.lst a ts)), some (.tre (.hole b)) => ∃ c us m, ts[c]? = some (.lst b us) ∧ ixN us.length k' = some m ∧ E.nx (ρ2.set i (.tre (.lst a (ts.set c (.lst b (us.set m (.leaf d)))))))
  | _, _, _ => False
def isHole (ρ : List Sv) (n : Nat) : Prop := match ρ[n]? with
  | some (.tre (.hole _)) => True
  | _ => False
theorem isHole.ex {ρ : List Sv} {n : Nat} (h : isHole ρ n) : ∃ a, ρ[n]? = some (.tre (.hole a)) := by
  unfold isHole at h
  split at h
  · rename_i a e; exact ⟨a, e⟩
  · exact h.elim
def kPutH1 (i n : Nat) (tk : AE) (E : AEnds) : KD := fun d ρ1 => isHole ρ1 n ∧ tk ρ1 (kPutH2 E i n d) E.xx
def sPutH (i n : Nat) (te tk : AE) : AS := fun E ρ => te ρ (kPutH1 i n tk E) E.xx
/-- n[k], n a name for a list of x -/
def kHIx (ρ : List Sv) (i n : Nat) (Q : D → Prop) : D → Prop := fun k => match k, ρ[i]?, ρ[n]? with
  | .int k', some (.tre (.lst a ts)), some (.tre (.hole b)) => ∃ (c : Nat) (us : List Tr) (d : D), ts[c]? = some (Tr.lst b us) ∧ atI us k' = some (Tr.leaf d) ∧ Q d
  | _, _, _ => False
def vHIx (i n : Nat) (vk : AV) : AV := fun ρ Q => isHole ρ n ∧ vk ρ (kHIx ρ i n Q)
/-! ### x[j].append(e), x a list of lists -/
def kAppK2 (E : AEnds) (i c : Nat) (b : Addr) : KD := fun d ρ1 => match ρ1[i]? with
  | some (.tre (.lst a ts)) => ∃ us, ts[c]? = some (.lst b us) ∧ us.length < sizeLine ∧ E.nx (ρ1.set i (.tre (.lst a (ts.set c (.lst b (us ++ [.leaf d]))))))
  | _ => False
def kAppK1 (E : AEnds) (ρ : List Sv) (i : Nat) (te : AE) : D → Prop := fun k => match k, ρ[i]? with
  | .int k', some (.tre (.lst _ ts)) => ∃ c b us, ixN ts.length k' = some c ∧ ts[c]? = some (.lst b us) ∧ te ρ (kAppK2 E i c b) E.xx
  | _, _ => False
def sAppK (i : Nat) (vk : AV) (te : AE) : AS := fun E ρ => isTre ρ i ∧ vk ρ (kAppK1 E ρ i te)
/-! ### x = [o1, o2], lists of their own -/
def kSetL2 (E : AEnds) (i : Nat) (xs : List D) : List D → List Sv → Prop := fun ys ρ1 => okSet ρ1 i ∧ ∀ a b c, E.nx (ρ1.set i (.tre (.lst a [.lst b (xs.map .leaf), .lst c (ys.map .leaf)])))
def kSetL1 (E : AEnds) (i : Nat) (to2 : AO) : List D → List Sv → Prop := fun xs ρ1 => to2 ρ1 (kSetL2 E i xs) noX
def sSetL2 (i : Nat) (to1 to2 : AO) : AS := fun E ρ => to1 ρ (kSetL1 E i to2) E.xx
end
section
variable {E : AEnds} {ρ : List Sv} {i n c : Nat} {tl th : AP} {tb : AS} {l u : Option Int} {a b : Addr} {ts : List Tr} {te tk : AE} {vk : AV} {Q : D → Prop} {d : D} {to1 to2 : AO} {xs ys : List D} {bs : List Addr}
@[simp ↓] theorem q_sForH : sForH i n tl th tb E ρ = (isTre ρ i ∧ tl ρ (kForH1 E i n th tb) E.xx) := keep rfl
@[simp ↓] theorem q_kForH1 : kForH1 E i n th tb l ρ = th ρ (kForH2 E i n tb l) E.xx := keep rfl
@[simp ↓] theorem q_kForH2 : kForH2 E i n tb l u ρ = (match ρ[i]? with
  | some (.tre (.lst _ ts)) => (∀ t ∈ ts, t.isL) ∧ aLoopH n tb E (cutA (ts.map Tr.adr) l u) ρ
  | _ => False) := keep rfl
@[simp ↓] theorem q_sPutH : sPutH i n te tk E ρ = te ρ (kPutH1 i n tk E) E.xx := keep rfl
@[simp ↓] theorem q_kPutH1 : kPutH1 i n tk E d ρ = (isHole ρ n ∧ tk ρ (kPutH2 E i n d) E.xx) := keep rfl
@[simp ↓] theorem q_kPutH2 {k : D} : kPutH2 E i n d k ρ = (match k, ρ[i]?, ρ[n]? with
  | .int k', some (.tre (.lst a ts)), some (.tre (.hole b)) => ∃ c us m, ts[c]? = some (.lst b us) ∧ ixN us.length k' = some m ∧ E.nx (ρ.set i (.tre (.lst a (ts.set c (.lst b (us.set m (.leaf d)))))))
  | _, _, _ => False) := keep rfl
@[simp ↓] theorem q_vHIx : vHIx i n (vk) ρ Q = (isHole ρ n ∧ vk ρ (kHIx ρ i n Q)) := keep rfl
@[simp ↓] theorem q_kHIx : kHIx ρ i n Q d = (match d, ρ[i]?, ρ[n]? with
  | .int k', some (.tre (.lst a ts)), some (.tre (.hole b)) => ∃ (c : Nat) (us : List Tr) (d : D), ts[c]? = some (Tr.lst b us) ∧ atI us k' = some (Tr.leaf d) ∧ Q d
  | _, _, _ => False) := keep rfl
@[simp ↓] theorem q_sAppK : sAppK i vk te E ρ = (isTre ρ i ∧ vk ρ (kAppK1 E ρ i te)) := keep rfl
@[simp ↓] theorem q_kAppK1 : kAppK1 E ρ i te d = (match d, ρ[i]? with
  | .int k', some (.tre (.lst _ ts)) => ∃ c b us, ixN ts.length k' = some c ∧ ts[c]? = some (.lst b us) ∧ te ρ (kAppK2 E i c b) E.xx
  | _, _ => False) := keep rfl
@[simp ↓] theorem q_kAppK2 : kAppK2 E i c b d ρ = (match ρ[i]? with
  | some (.tre (.lst a ts)) => ∃ us, ts[c]? = some (.lst b us) ∧ us.length < sizeLine ∧ E.nx (ρ.set i (.tre (.lst a (ts.set c (.lst b (us ++ [.leaf d]))))))
  | _ => False) := keep rfl
@[simp ↓] theorem q_sSetL2 : sSetL2 i to1 to2 E ρ = to1 ρ (kSetL1 E i to2) E.xx := keep rfl
@[simp ↓] theorem q_kSetL1 : kSetL1 E i to2 xs ρ = to2 ρ (kSetL2 E i xs) noX := keep rfl
@[simp ↓] theorem q_kSetL2 : kSetL2 E i xs ys ρ = (okSet ρ i ∧ ∀ a b c, E.nx (ρ.set i (.tre (.lst a [.lst b (xs.map .leaf), .lst c (ys.map .leaf)])))) := keep rfl
@[simp ↓] theorem q_kEndH : kEndH n E ρ = (okSet ρ n ∧ E.nx (ρ.set n .un)) := keep rfl
@[simp ↓] theorem q_isHole : isHole ρ n = (match ρ[n]? with
  | some (.tre (.hole _)) => True
  | _ => False) := keep rfl
end
end VS
/-! VS1: x in l, l.index(x), the items of any depth. -/
namespace VS
open PySem PySem.Spec PyProof.Rows L2
def bInD (neg : Bool) : D → D → (D → Prop) → Prop
  | x, .lst ys, Q => x.eqOk ∧ (D.lst ys).eqOk ∧ Q (.bl (if neg then !(ys.any fun y => PyData.eqv y.py x.py) else ys.any fun y => PyData.eqv y.py x.py))
  | _, _, _ => False
section
variable {X : Cx} {W : WX} {o e : Expr} {ta tb : AE} {apos pos : Pos}
def kLix2 (Q : KD) (d : D) : KD := fun e ρ2 => match d with
  | .lst ys => (D.lst ys).eqOk ∧ e.eqOk ∧ ∃ (j : Nat) (y : D), ys[j]? = some y ∧ PyData.eqv y.py e.py = true ∧ (∀ (m : Nat) (z : D), m < j → ys[m]? = some z → PyData.eqv z.py e.py = false) ∧ Q (.int (j : Nat)) ρ2
  | _ => False
def kLix1 (Q : KD) (Z : KX) (tb : AE) : KD := fun d ρ1 => (∃ ys, d = .lst ys) ∧ tb ρ1 (kLix2 Q d) Z
def aLix (ta tb : AE) : AE := fun ρ Q Z => ta ρ (kLix1 Q Z tb) Z
end
section
variable {ρ ρ1 : List Sv} {Q : KD} {Z : KX} {ta tb : AE} {ys : List D} {x e : D} {neg : Bool} {R : D → Prop}
@[simp ↓] theorem q_aLix : aLix ta tb ρ Q Z = ta ρ (kLix1 Q Z tb) Z := keep rfl
@[simp ↓] theorem q_kLix1 : kLix1 Q Z tb (.lst ys) ρ1 = tb ρ1 (kLix2 Q (.lst ys)) Z := propext ⟨fun h => h.2, fun h => ⟨⟨ys, rfl⟩, h⟩⟩
@[simp ↓] theorem q_kLix2 : kLix2 Q (.lst ys) e ρ1 = ((D.lst ys).eqOk ∧ e.eqOk ∧ ∃ (j : Nat) (y : D), ys[j]? = some y ∧ PyData.eqv y.py e.py = true ∧ (∀ (m : Nat) (z : D), m < j → ys[m]? = some z → PyData.eqv z.py e.py = false) ∧ Q (.int (j : Nat)) ρ1) := keep rfl
@[simp ↓] theorem q_bInD : bInD neg x (.lst ys) R = (x.eqOk ∧ (D.lst ys).eqOk ∧ R (.bl (if neg then !(ys.any fun y => PyData.eqv y.py x.py) else ys.any fun y => PyData.eqv y.py x.py))) := keep rfl
end
end VS
/-! VS2: list(zip(a, b)). -/
namespace VS
open PySem PySem.Spec PyProof.Rows L2
/-- the addresses as hold the pairs, in order, as tuples; they lie above lo and rise -/
structure ZipG (xs ys : Array Value) (lo : Addr) (h : Heap) (as : List Addr) : Prop where
  rise : as.Pairwise (· < ·)
  above : ∀ a ∈ as, lo < a
  pairs : ∀ (j : Nat) (a : Addr), as[j]? = some a → ∃ x y, xs[j]? = some x ∧ ys[j]? = some y ∧ IsPair h a x y
theorem ZipG.there {xs ys : Array Value} {lo : Addr} {h : Heap} {as : List Addr} (g : ZipG xs ys lo h as) {a : Addr} (ha : a ∈ as) : a < h.objs.size := by
  obtain ⟨j, hj⟩ := List.mem_iff_getElem?.mp ha
  obtain ⟨_, _, _, _, e⟩ := g.pairs j a hj
  exact Heap.lt_size e
structure ZlSt (h : Heap) (z TI TO i1 i2 l1 l2 S : Addr) (xs ys : Array Value) (i : Nat) : Prop where
  ti : IsPair h TI (.ref i1) (.ref i2)
  a1 : h.IsListIter i1 l1 i
  a2 : h.IsListIter i2 l2 i
  b1 : h.IsList l1 xs
  b2 : h.IsList l2 ys
  zz : (IsZip h z TI TO .none ∧ ∃ a b, IsPair h TO a b) ∨ ∃ T f oT, IsZipHeld h z TI TO T f ∧ h.get? T = some oT ∧ T ≠ z ∧ T ≠ i1 ∧ T ≠ i2 ∧ T ≠ S
structure ZlOff (S z TI TO i1 i2 l1 l2 : Addr) : Prop where
  nz : z < S
  nTI : TI < S
  nTO : TO < S
  n1 : i1 < S
  n2 : i2 < S
  m1 : l1 < S
  m2 : l2 < S
section
variable {prog : Program} {w : World} {A : Around} {E : Value → Shared → Prop} {s : Shared} {S z TI TO i1 i2 l1 l2 : Addr} {xs ys : Array Value} {i : Nat} {h h' : Heap}
theorem ZlSt.keep (st : ZlSt h z TI TO i1 i2 l1 l2 S xs ys i) (O : ZlOff S z TI TO i1 i2 l1 l2) (hk : ∀ b o, b ≠ S → h.get? b = some o → h'.get? b = some o) : ZlSt h' z TI TO i1 i2 l1 l2 S xs ys i := by
  obtain ⟨ti, a1, a2, b1, b2, zz⟩ := st
  refine ⟨hk _ _ (Nat.ne_of_lt O.nTI) ti, a1.at fun o e => hk _ o (Nat.ne_of_lt O.n1) e, a2.at fun o e => hk _ o (Nat.ne_of_lt O.n2) e, b1.at fun o e => hk _ o (Nat.ne_of_lt O.m1) e, b2.at fun o e => hk _ o (Nat.ne_of_lt O.m2) e, ?_⟩
  rcases zz with ⟨hz, a, b, hTO⟩ | ⟨T, f, oT, hz, hT, r1, r2, r3, r4⟩
  · exact .inl ⟨hk _ _ (Nat.ne_of_lt O.nz) hz, a, b, hk _ _ (Nat.ne_of_lt O.nTO) hTO⟩
  · exact .inr ⟨T, f, oT, hk _ _ (Nat.ne_of_lt O.nz) hz, hk _ _ r4 hT, r1, r2, r3, r4⟩
end
/-! ### list(zip(a, b)), an expression -/
section
variable {X : Cx} {W : WX}
/-- list(zip(a, b)), two lists -/
def kListZ (QL : List D → List Sv → Prop) : List D → List Sv → Prop := fun ds ρ1 => match ds with
  | [.lst xs, .lst ys] => min xs.length ys.length ≤ sizeLine ∧ QL (zipD xs ys) ρ1
  | _ => False
def oListZ (t : AA) : AO := fun ρ Q Z => t ρ (kListZ Q) Z
end
section
variable {ρ ρ1 : List Sv} {Z : KX} {QL : List D → List Sv → Prop} {aa : AA} {xs ys : List D}
@[simp ↓] theorem q_oListZ : oListZ aa ρ QL Z = aa ρ (kListZ QL) Z := keep rfl
@[simp ↓] theorem q_kListZ : kListZ QL [.lst xs, .lst ys] ρ1 = (min xs.length ys.length ≤ sizeLine ∧ QL (zipD xs ys) ρ1) := keep rfl
end
end VS
/-! VS3: try .. except X: without a name. -/
namespace VS
open PySem PySem.Spec PyProof.Rows L2
def kTryX0 (D : AEnds) (cl : List (Str × Bool)) (ts : AS) : KX := fun x ρ' => ∃ b, cl.lookup x.c = some b ∧ if b = true then ts { D with xx := noX } ρ' else D.xx x ρ'
def sTry0 (cl : List (Str × Bool)) (tb ts : AS) : AS := fun D ρ => tb { D with xx := kTryX0 D cl ts } ρ
section
variable {ρ : List Sv} {D : AEnds} {cl : List (Str × Bool)} {tb ts : AS} {x : Exc}
@[simp ↓] theorem q_sTry0 : sTry0 cl tb ts D ρ = tb { D with xx := kTryX0 D cl ts } ρ := keep rfl
end
/-! ### x[j][k] = e, x a list of lists -/
def kPutK3 (E : AEnds) (i c : Nat) (b : Addr) (d : D) : KD := fun k ρ2 => match k, ρ2[i]? with
  | .int k', some (.tre (.lst a ts)) => ∃ us m, ts[c]? = some (.lst b us) ∧ ixN us.length k' = some m ∧ E.nx (ρ2.set i (.tre (.lst a (ts.set c (.lst b (us.set m (.leaf d)))))))
  | _, _ => False
def kPutK2 (E : AEnds) (i : Nat) (tk : AE) (d : D) (ρ1 : List Sv) : D → Prop := fun k => match k, ρ1[i]? with
  | .int k', some (.tre (.lst _ ts)) => ∃ c b us, ixN ts.length k' = some c ∧ ts[c]? = some (.lst b us) ∧ tk ρ1 (kPutK3 E i c b d) E.xx
  | _, _ => False
def kPutK1 (E : AEnds) (i : Nat) (vk : AV) (tk : AE) : KD := fun d ρ1 => isTre ρ1 i ∧ vk ρ1 (kPutK2 E i tk d ρ1)
def sPutK (i : Nat) (te : AE) (vk : AV) (tk : AE) : AS := fun E ρ => te ρ (kPutK1 E i vk tk) E.xx
section
variable {ρ ρ1 ρ2 : List Sv} {E : AEnds} {i c : Nat} {b : Addr} {te tk : AE} {vk : AV} {d k : D}
@[simp ↓] theorem q_sPutK : sPutK i te vk tk E ρ = te ρ (kPutK1 E i vk tk) E.xx := keep rfl
@[simp ↓] theorem q_kPutK1 : kPutK1 E i vk tk d ρ1 = (isTre ρ1 i ∧ vk ρ1 (kPutK2 E i tk d ρ1)) := keep rfl
@[simp ↓] theorem q_kPutK2 : kPutK2 E i tk d ρ1 k = (match k, ρ1[i]? with
  | .int k', some (.tre (.lst _ ts)) => ∃ c b us, ixN ts.length k' = some c ∧ ts[c]? = some (.lst b us) ∧ tk ρ1 (kPutK3 E i c b d) E.xx
  | _, _ => False) := keep rfl
@[simp ↓] theorem q_kPutK3 : kPutK3 E i c b d k ρ2 = (match k, ρ2[i]? with
  | .int k', some (.tre (.lst a ts)) => ∃ us m, ts[c]? = some (.lst b us) ∧ ixN us.length k' = some m ∧ E.nx (ρ2.set i (.tre (.lst a (ts.set c (.lst b (us.set m (.leaf d)))))))
  | _, _ => False) := keep rfl
end
end VS
/-! VS4: <= of lists of ints. -/
/-! VS5: for n in (x, y), n a name for two lists of one's own in turn. -/
namespace VS
open PySem PySem.Spec PyProof.Rows L2
def kTwo2 (E : AEnds) (j n : Nat) (l : Addr) : List Sv → Prop := fun ρ => match ρ[j]?, ρ[n]? with
  | some (.tre (.hole b)), some (.own true ys) => b = l ∧ E.nx ((ρ.set n .un).set j (.own false ys))
  | _, _ => False
def kTwo1 (E : AEnds) (i j n : Nat) (tb : AS) (l : Addr) : List Sv → Prop := fun ρ => match ρ[i]?, ρ[n]?, ρ[j]? with
  | some (.tre (.hole b)), some (.own true xs), some (.own true ys) => b = l ∧ ∀ l2, tb { nx := kTwo2 E j n l2, rt := fun _ _ => False } ((((ρ.set n .un).set i (.own false xs)).set j (.tre (.hole l2))).set n (.own true ys))
  | _, _, _ => False
def sFor2 (i j n : Nat) (tb : AS) : AS := fun E ρ => match ρ[i]?, ρ[j]? with
  | some (.own false xs), some (.own false ys) => i ≠ j ∧ n ≠ i ∧ n ≠ j ∧ okSet ρ n ∧ ∀ l, tb { nx := kTwo1 E i j n tb l, rt := fun _ _ => False } (((ρ.set j (.own true ys)).set i (.tre (.hole l))).set n (.own true xs))
  | _, _ => False
section
variable {E : AEnds} {ρ : List Sv} {i j n : Nat} {tb : AS} {l : Addr}
@[simp ↓] theorem q_sFor2 : sFor2 i j n tb E ρ = (match ρ[i]?, ρ[j]? with
  | some (.own false xs), some (.own false ys) => i ≠ j ∧ n ≠ i ∧ n ≠ j ∧ okSet ρ n ∧ ∀ l, tb { nx := kTwo1 E i j n tb l, rt := fun _ _ => False } (((ρ.set j (.own true ys)).set i (.tre (.hole l))).set n (.own true xs))
  | _, _ => False) := keep rfl
@[simp ↓] theorem q_kTwo1 : kTwo1 E i j n tb l ρ = (match ρ[i]?, ρ[n]?, ρ[j]? with
  | some (.tre (.hole b)), some (.own true xs), some (.own true ys) => b = l ∧ ∀ l2, tb { nx := kTwo2 E j n l2, rt := fun _ _ => False } ((((ρ.set n .un).set i (.own false xs)).set j (.tre (.hole l2))).set n (.own true ys))
  | _, _, _ => False) := keep rfl
@[simp ↓] theorem q_kTwo2 : kTwo2 E j n l ρ = (match ρ[j]?, ρ[n]? with
  | some (.tre (.hole b)), some (.own true ys) => b = l ∧ E.nx ((ρ.set n .un).set j (.own false ys))
  | _, _ => False) := keep rfl
end
end VS
/-! VS6: objects of one's own that are lent: to a def, to their methods. -/
namespace VS
open PySem PySem.Spec PyProof.Rows L2
section
variable {K : PySem.W.Frag} {P : List (Nat × Addr)} {G G' F : Hp} {ρ : List Sv} {σ : St} {H H' : Hp} {as : List Ar}
/-- an object of one's own is taken out of its slot: its name stays -/
theorem Rel.takeO {i : Nat} {a : Addr} {c : Str} {ns : List Str} {ts : List Tr} (R : Rel K P G F ρ σ H) (e : ρ[i]? = some (.tre (.ob a c ns ts))) :
    Rel K P G F (ρ.set i (.tre (.hole a))) σ H ∧ σ[i]? = some (some (.ref a)) ∧ TR K G H (.ob a c ns ts) (.ref a) ∧ (Tr.ob a c ns ts).foot.Nodup ∧ ∀ b ∈ (Tr.ob a c ns ts).foot, G b = none ∧ F b = none ∧ NoS (ρ.set i (.tre (.hole a))) σ b := by
  obtain ⟨v, g1, g2, g3, g4⟩ := R.tr.got i _ e
  have g2 : TR K G H (.ob a c ns ts) v := g2
  obtain ⟨C, dx, vs, m0, rfl, m2⟩ := tr_ob.mp g2
  have hi : i < ρ.length := (List.getElem?_eq_some_iff.mp e).1
  have am : a ∈ (Tr.ob a c ns ts).foot := by rw [foot_ob]; exact List.mem_cons_self ..
  obtain ⟨Ro, _⟩ := R.openT e am
  have sF : Same F (openF (.ob a c ns ts) a H F) := fun b o q => by
    rw [openF_no fun hb => by rw [(g4 b hb).2] at q; cases q]
    exact q
  have R2 := (Ro.weakF sF).setT (i := i) (t := .hole a) (v := .ref a) (by unfold okSet; rw [set_eq hi]; trivial) rfl (by rw [foot_hole]; exact List.nodup_nil) (fun b hb => by rw [foot_hole] at hb; cases hb)
  rw [List.set_set, set_same g1] at R2
  refine ⟨R2, g1, g2, g3, fun b hb => ⟨(g4 b hb).1, (g4 b hb).2, ?_⟩⟩
  have ns1 := (R.openT e hb).2
  refine ⟨fun j d ys q => ?_, fun j u q => ?_⟩
  · obtain ⟨hj, q⟩ := noOwnS (fun _ _ z => by cases z) q
    exact ns1.own j d ys (by rw [set_ne hj]; exact q)
  · rcases treS q with ⟨_, rfl⟩ | ⟨hj, q⟩
    · rw [foot_hole]; exact List.not_mem_nil
    · exact ns1.tre j u (by rw [set_ne hj]; exact q)
/-- .. and put back, changed -/
theorem Rel.giveO {i : Nat} {a : Addr} {t : Tr} (R : Rel K P G F ρ σ H) (e : ρ[i]? = some (.tre (.hole a))) (ht : TRt K G H t (.ref a)) (nd : t.foot.Nodup) (hf : ∀ b ∈ t.foot, G b = none ∧ F b = none ∧ NoS ρ σ b) : Rel K P G F (ρ.set i (.tre t)) σ H := by
  obtain ⟨v, m1, m2, -, -⟩ := R.tr.got i _ e
  have m2 : v = .ref a := m2
  subst m2
  have R2 := R.setT (i := i) (t := t) (v := .ref a) (by unfold okSet; rw [e]; trivial) ht nd hf
  rw [set_same m1] at R2
  exact R2
theorem frame_free {ρ : List Sv} {σ : St} {H F : Hp} {as : List Ar} {b : Addr} (n : NoS ρ σ b) : frameOf ρ σ H F as b = F b := by
  rw [frameOf_no]
  rintro (⟨j, c, xs, h1, h2, _⟩ | ⟨j, t, h1, h2⟩)
  · exact n.own j c xs h1 h2
  · exact n.tre j t h1 h2
/-- what the callee meets, with a tree at its place k -/
theorem Rel.lendT {k i : Nat} {a : Addr} {t : Tr} {vs : List V} (R : Rel K P G F ρ σ H) (ha : ArL K G σ as vs) (ok : lendOk ρ as) (ek : as[k]? = some (.tr i)) (ei : σ[i]? = some (some (.ref a))) (ht : TRt K G H t (.ref a)) (nd : t.foot.Nodup)
    (hf : ∀ b ∈ t.foot, G b = none ∧ F b = none ∧ NoS ρ σ b) : Rel K (pinL σ 0 as) G (frameOf ρ σ H F as) ((as.map (res ρ)).set k (.tre t)) (vs.map some) H := by
  have Rl := R.lend ha ok.1 ok.2
  have e1 : (as.map (res ρ))[k]? = some .un := by rw [List.getElem?_map, ek]; rfl
  obtain ⟨v, h1, h2⟩ := ha.get ek
  have h2 : σ[i]? = some (some v) := h2
  rw [ei] at h2
  cases h2
  have e2 : (vs.map some)[k]? = some (some (V.ref a)) := by rw [List.getElem?_map, h1]; rfl
  have R2 := Rl.setT (i := k) (t := t) (v := .ref a) (by unfold okSet; rw [e1]; trivial) ht nd (fun b hb => by
    obtain ⟨f1, f2, f3⟩ := hf b hb
    refine ⟨f1, by rw [frame_free f3]; exact f2, ⟨fun m c ys q z => ?_, fun m u q => ?_⟩⟩
    · rw [List.getElem?_map] at q
      cases e : as[m]? with
      | none => rw [e] at q; cases q
      | some ar =>
        rw [e] at q
        obtain ⟨j, c', rfl, _, q3⟩ := res_own (Option.some.inj q)
        obtain ⟨w, k1, k2⟩ := ha.get e
        have k2 : σ[j]? = some (some w) := k2
        rw [List.getElem?_map, k1] at z
        cases z
        exact f3.own j c' ys q3 k2
    · rw [List.getElem?_map] at q
      cases e : as[m]? with
      | none => rw [e] at q; cases q
      | some ar => rw [e] at q; exact (res_tre (Option.some.inj q)).elim)
  rw [set_same e2] at R2
  exact R2
theorem put_tre {ρp : List Sv} {i : Nat} {t : Tr} (hn : (iosOf as).Nodup) (e : ρ[i]? = some (.tre t)) : (put ρ as ρp)[i]? = some (.tre t) := by
  have hi : i < ρ.length := (List.getElem?_eq_some_iff.mp e).1
  have hl : i < (put ρ as ρp).length := by rw [put_len]; exact hi
  have q := List.getElem?_eq_getElem hl
  rcases put_get hn q with ⟨k, xs, b, zs, h1, h2, h3, h4⟩ | ⟨h1, _⟩
  · rw [e] at h3; cases h3
  · rw [q, ← h1]; exact e
/-- what the caller finds behind -/
theorem Rel.backT {ρp : List Sv} {k : Nat} {t' : Tr} (R : Rel K P G F ρ σ H) (ok : lendOk ρ as) (B : Back K (pinL σ 0 as) G' (frameOf ρ σ H F as) ρp H') (s : Same G G') (ek : ρp[k]? = some (.tre t')) :
    Rel K P G' F (put ρ as ρp) σ H' ∧ (∃ v, TRt K G' H' t' v) ∧ t'.foot.Nodup ∧ ∀ b ∈ t'.foot, G' b = none ∧ F b = none ∧ NoS (put ρ as ρp) σ b := by
  have R3 := R.back ok.1 ok.2 B s
  obtain ⟨v, t1, t2, t3⟩ := B.tr k t' ek
  refine ⟨R3, ⟨v, t1⟩, t2, fun b hb => ?_⟩
  obtain ⟨f1, f2⟩ := t3 b hb
  refine ⟨f1, R.frameN f2, ⟨fun j c ys q z => ?_, fun j u q hu => ?_⟩⟩
  · have hy : ∃ zs, ρ[j]? = some (.own c zs) := by
      rcases put_get ok.2 q with ⟨m, ys', b', zs, m1, m2, m3, m4⟩ | ⟨m1, _⟩
      · cases m4; exact ⟨zs, m3⟩
      · exact ⟨ys, m1⟩
    obtain ⟨zs, hz⟩ := hy
    by_cases hj : j ∈ iosOf as
    · obtain ⟨m, hm⟩ := mem_ios.mp hj
      exact B.dj (m, b) (mem_pinL.mpr ⟨m, j, hm, z, by simp⟩) k t' ek hb
    · rw [frameOf_yes hz z hj] at f2
      obtain ⟨c', us, k1, k2, _⟩ := R.own j c zs hz
      rw [z] at k1
      cases k1
      rw [f2] at k2
      cases k2
  · rcases put_get ok.2 q with ⟨m, ys', b', zs, m1, m2, m3, m4⟩ | ⟨m1, _⟩
    · cases m4
    · rw [frameOf_tre m1 hu] at f2
      obtain ⟨⟨us, k1⟩, _⟩ := R.tr.ex m1 hu
      rw [k1] at f2
      cases f2
end
/-! ### the call -/
def kTR (Q : KD) (ρ1 : List Sv) (as : List Ar) (k i : Nat) (a : Addr) : Sv → List Sv → Prop := fun r ρp => match r, ρp[k]? with
  | .dat d, some (.tre (.ob y c ns ts)) => y = a ∧ Q d ((put ρ1 as ρp).set i (.tre (.ob y c ns ts)))
  | _, _ => False
def kTX (Z : KX) (ρ1 : List Sv) (as : List Ar) (k i : Nat) (a : Addr) : Exc → List Sv → Prop := fun x ρp => match ρp[k]? with
  | some (.tre (.ob y c ns ts)) => y = a ∧ Z x ((put ρ1 as ρp).set i (.tre (.ob y c ns ts)))
  | _ => False
def kDefT (Q : KD) (Z : KX) (c : Ctr) (dds : List D) (k i : Nat) : List Ar → List Sv → Prop := fun as ρ1 => as[k]? = some (.tr i) ∧ match ρ1[i]? with
  | some (.tre (.ob a c' ns ts)) => lendOk (ρ1.set i (.tre (.hole a))) as ∧ c ((as.map (res (ρ1.set i (.tre (.hole a)))) ++ dds.map Sv.dat).set k (.tre (.ob a c' ns ts))) (kTR Q (ρ1.set i (.tre (.hole a))) as k i a) (kTX Z (ρ1.set i (.tre (.hole a))) as k i a)
  | _ => False
section
variable {X : Cx} {W : WX}
theorem call_coreT {ps : List Str} {dds : List D} {c : Ctr} {dvs : List V} {P : List (Nat × Addr)} {G F : Hp} {ρ : List Sv} {σ : St} {H : Hp} {as : List Ar} {vs : List V} {Q : KD} {Q' : VK} {Z : KX} {k i : Nat}
    (R : Rel X.K P G F ρ σ H) (hl : (vs ++ dvs).length = ps.length) (ha : ArL X.K G σ as vs) (hdd : ∀ G, RpL X.K G dds dvs) (hc : kDefT Q Z c dds k i as ρ) (hz : XIn X W P G F σ Z)
    (hq : ∀ G' ρ' H' d v, Rel X.K P G' F ρ' σ H' → Same G G' → Rp X.K G' d v → Q d ρ' → Q' v H') : spV X.K ps.length c (vs ++ dvs) H Q' (WE W σ) := by
  obtain ⟨ek, hc⟩ := hc
  split at hc
  case h_2 => exact hc.elim
  rename_i a c' ns ts e
  obtain ⟨ok, hc⟩ := hc
  obtain ⟨R1, ei, tr, nd, hf⟩ := R.takeO e
  have ha2 : ArL X.K G σ (as ++ dds.map Ar.dat) (vs ++ dvs) := ha.append (ArL.dats (hdd G))
  have ok2 : lendOk (ρ.set i (.tre (.hole a))) (as ++ dds.map Ar.dat) := by unfold lendOk; rw [ios_dats]; exact ok
  have ek2 : (as ++ dds.map Ar.dat)[k]? = some (.tr i) := by rw [List.getElem?_append_left (List.getElem?_eq_some_iff.mp ek).1]; exact ek
  have R2 := R1.lendT ha2 ok2 ek2 ei (show TRt X.K G H (.ob a c' ns ts) (.ref a) from tr) nd hf
  rw [map_dats] at R2
  have hi : i < ρ.length := (List.getElem?_eq_some_iff.mp e).1
  have eh : (ρ.set i (.tre (.hole a)))[i]? = some (.tre (.hole a)) := set_eq hi
  refine ⟨hl, _, G, _, _, _, _, R2, hc, fun G' ρp H' r v B s rr q => ?_, fun G' ρp H' x cls d B s ex q => ?_⟩
  · unfold kTR at q
    split at q
    case h_2 => exact q.elim
    rename_i d y c2 ns2 ts2 e2
    obtain ⟨rfl, q⟩ := q
    obtain ⟨R3, ⟨w, t1⟩, t2, t3⟩ := R1.backT ok2 B s e2
    have t1' : TR X.K G' H' (.ob y c2 ns2 ts2) w := t1
    obtain ⟨C, dx, us, m0, rfl, m2⟩ := tr_ob.mp t1'
    rw [put_dats] at R3 t3
    have R4 := R3.giveO (i := i) (put_tre ok.2 eh) t1 t2 t3
    exact hq G' _ H' d v R4 s rr q
  · unfold kTX at q
    split at q
    case h_2 => exact q.elim
    rename_i y c2 ns2 ts2 e2
    obtain ⟨rfl, q⟩ := q
    obtain ⟨R3, ⟨w, t1⟩, t2, t3⟩ := R1.backT ok2 B s e2
    have t1' : TR X.K G' H' (.ob y c2 ns2 ts2) w := t1
    obtain ⟨C, dx, us, m0, rfl, m2⟩ := tr_ob.mp t1'
    rw [put_dats] at R3 t3
    have R4 := R3.giveO (i := i) (put_tre ok.2 eh) t1 t2 t3
    exact hz G' _ H' x cls d R4 s ex q
end
/-! ### f(.., x, ..), x an object of one's own -/
def isOb (ρ : List Sv) (i : Nat) : Prop := match ρ[i]? with
  | some (.tre (.ob _ _ _ _)) => True
  | _ => False
theorem isOb.ex {ρ : List Sv} {i : Nat} (h : isOb ρ i) : ∃ a c ns ts, ρ[i]? = some (.tre (.ob a c ns ts)) := by
  unfold isOb at h
  split at h
  · rename_i a c ns ts e; exact ⟨a, c, ns, ts, e⟩
  · exact h.elim
def krTr (QA : List Ar → List Sv → Prop) (i : Nat) : List Ar → List Sv → Prop := fun as ρ2 => QA (.tr i :: as) ρ2
def rTr (i : Nat) (u : AAr) : AAr := fun ρ Q Z => isOb ρ i ∧ u ρ (krTr Q i) Z
def aDefT (c : Ctr) (dds : List D) (k i : Nat) (t : AAr) : AE := fun ρ Q Z => t ρ (kDefT Q Z c dds k i) Z
def isObC (ρ : List Sv) (i : Nat) (c m : Str) : Prop := match ρ[i]? with
  | some (.tre (.ob _ c' ns _)) => c' = c ∧ m ∉ ns
  | _ => False
def kMethT (Q : KD) (Z : KX) (ctr : Ctr) (n i : Nat) : List Ar → List Sv → Prop := fun as ρ1 => as.length + 1 = n ∧ kDefT Q Z ctr [] 0 i (.tr i :: as) ρ1
def aMethT (c m : Str) (n : Nat) (ctr : Ctr) (i : Nat) (t : AAr) : AE := fun ρ Q Z => isObC ρ i c m ∧ t ρ (kMethT Q Z ctr n i) Z
section
variable {X : Cx} {W : WX} {a : Expr} {es : List Expr} {u : AAr} {p p1 pos apos : Pos}
theorem r_tr (i : Nat) {x : Str} (k : RX X W es u) (hN : X.N[i]? = some x := by rfl) (hv : Vis X.env.scope x := by first | exact Or.inl rfl | exact Or.inr (Or.inl rfl) | exact Or.inr (Or.inr rfl)) (hd : (x == ("__debug__" : Str)) = false := by decide)
    (hcd : (x == ("__classdict__" : Str)) = false := by decide) (hs : starEach (.Name x p :: es) X.env = (false, eval (.Name x p) X.env) :: starEach es X.env := by rfl) : RX X W (.Name x p :: es) (rTr i u) := by
  obtain ⟨U, p', r'⟩ := k.ex
  refine ⟨_, pa_cons (pe_var hN hv hd hcd) p' hs, fun P G F ρ σ H Q Z Q' R ⟨h0, h⟩ hz hq => ?_⟩
  obtain ⟨a, c, ns, ts, e⟩ := h0.ex
  obtain ⟨v, g1, _⟩ := R.tr.got i _ e
  exact ⟨_, g1, r' P G F ρ σ H _ Z _ R h hz fun G2 ρ2 H2 vs as R2 s2 rs hl q => hq G2 ρ2 H2 (v :: vs) (.tr i :: as) R2 s2 (show ArL X.K G2 σ (.tr i :: as) (v :: vs) from ⟨_, vs, rfl, g1, rs⟩) (congrArg Nat.succ hl) q⟩
theorem e_defT (j i : Nat) {k : Nat} {x : Str} {ps : List Str} {dds : List D} {c : Ctr} (d : Def X k x ps dds c) (rn : Run k X) (tk : L2N.Takes X W) (hg : Gl X x) (ha : RX X W (a :: es) u) (hlen : (a :: es).length + dds.length = ps.length := by rfl) (hdb : (x == ("__debug__" : Str)) = false := by decide)
    (he : starEach (a :: es) X.env = (false, eval a X.env) :: starEach es X.env := by rfl) (hpl : (backTo pos (starEach es X.env)).any (·.1) = false := by rfl) : EX X W (.Call (.Name x p) (a :: es) [] pos) (aDefT c dds j i u) := by
  obtain ⟨f, fd, ds, dvs, FF, hm, hk, hb, hd, hdd⟩ := d.ex
  obtain ⟨T, pa, r⟩ := ha.ex
  refine ⟨_, pe_g FF rn hg hm hk hb hd tk pa hdb he hpl, fun P G F ρ σ H Q Z Q' R h hz hq => ?_⟩
  refine r P G F ρ σ H _ Z _ R h hz fun G1 ρ1 H1 vs as R1 s1 rs hl q => ?_
  exact call_coreT R1 (by rw [List.length_append, ← rs.length, hl, ← (hdd G).length]; exact hlen) rs hdd q (hz.mono s1) fun G2 ρ2 H2 d v R2 s2 rv q => hq G2 ρ2 H2 v d R2 (s1.trans s2) rv q
theorem e_methT {pl : Sem Bool} {k : Nat} {c m : Str} {ps : List Str} {ctr : Ctr} (i : Nat) {x : Str} (M : MethC X.prog X.w X.K X.mg X.base k c m ps ctr) (rn : Run k X) (tk : L2N.Takes X W) (ha : RX X W (a :: es) u) (hN : X.N[i]? = some x := by rfl) (hv : Vis X.env.scope x := by first | exact Or.inl rfl | exact Or.inr (Or.inl rfl) | exact Or.inr (Or.inr rfl)) (hd : (x == ("__debug__" : Str)) = false := by decide)
    (hcd : (x == ("__classdict__" : Str)) = false := by decide) (hst : starEach (a :: es) X.env = (false, eval a X.env) :: starEach es X.env := by rfl) (hpl : (backTo pos (starEach es X.env)).any (·.1) = false := by rfl)
    (ht : eval (.Call (.Attribute (.Name x p1) m apos) (a :: es) [] pos) X.env = (do
      let ov ← eval (.Name x p1) X.env
      standAt apos.atName
      let (f, first) ← holding [ov] (getMethod ov m pl)
      callWith pos f first (backTo pos (starEach (a :: es) X.env)) (backToKw pos (keywordEach [] X.env))) := by rfl) :
    EX X W (.Call (.Attribute (.Name x p1) m apos) (a :: es) [] pos) (aMethT c m ps.length ctr i u) := by
  obtain ⟨C, f, fd, hn, cl, me, F, hb⟩ := M.ex
  obtain ⟨U, pa, ra⟩ := ha.ex
  refine ⟨_, pe_mgN (pe_var hN hv hd hcd) cl me F rn hb .nil tk pa hst hpl ht, fun P G F ρ σ H Q Z Q' R ⟨h0, h⟩ hz hq => ?_⟩
  unfold isObC at h0
  split at h0
  case h_2 => exact h0.elim
  rename_i b c' ns ts e
  obtain ⟨rfl, hm⟩ := h0
  obtain ⟨_, ei, tr, _⟩ := R.takeO e
  obtain ⟨C', dx, vs, m0, _, m2, m3, m4, m5, m6⟩ := tr_ob.mp tr
  rw [hn] at m0
  cases m0
  refine ⟨_, ei, b, dx, _, rfl, m2, zip_nolook hm, ?_⟩
  refine ra P G F ρ σ H _ Z _ R h hz fun G2 ρ2 H2 us as R2 s2 rs hl ⟨hl2, q⟩ => ?_
  exact call_coreT (ps := ps) (vs := .ref b :: us) R2 (by rw [List.append_nil, List.length_cons, ← rs.length]; exact hl2) (show ArL X.K G2 σ (.tr i :: as) (.ref b :: us) from ⟨_, _, rfl, ei, rs⟩) (fun _ => RpL.nil) q (hz.mono s2) fun G3 ρ3 H3 d v R3 s3 rv q => hq G3 ρ3 H3 v d R3 (s2.trans s3) rv q
theorem e_methT0 {pl : Sem Bool} {k : Nat} {c m : Str} {ps : List Str} {ctr : Ctr} (i : Nat) {x : Str} (M : MethC X.prog X.w X.K X.mg X.base k c m ps ctr) (rn : Run k X) (tk : L2N.Takes X W) (hN : X.N[i]? = some x := by rfl) (hv : Vis X.env.scope x := by first | exact Or.inl rfl | exact Or.inr (Or.inl rfl) | exact Or.inr (Or.inr rfl)) (hd : (x == ("__debug__" : Str)) = false := by decide)
    (hcd : (x == ("__classdict__" : Str)) = false := by decide)
    (ht : eval (.Call (.Attribute (.Name x p1) m apos) [] [] pos) X.env = (do
      let ov ← eval (.Name x p1) X.env
      standAt apos.atName
      let (f, first) ← holding [ov] (getMethod ov m pl)
      callWith pos f first (backTo pos (starEach [] X.env)) (backToKw pos (keywordEach [] X.env))) := by rfl) :
    EX X W (.Call (.Attribute (.Name x p1) m apos) [] [] pos) (aMethT c m ps.length ctr i rNil) := by
  obtain ⟨C, f, fd, hn, cl, me, F, hb⟩ := M.ex
  refine ⟨_, pe_mg0 (pe_var hN hv hd hcd) cl me F rn hb tk ht, fun P G F ρ σ H Q Z Q' R ⟨h0, h⟩ hz hq => ?_⟩
  unfold isObC at h0
  split at h0
  case h_2 => exact h0.elim
  rename_i b c' ns ts e
  obtain ⟨rfl, hm⟩ := h0
  obtain ⟨_, ei, tr, _⟩ := R.takeO e
  obtain ⟨C', dx, vs, m0, _, m2, m3, m4, m5, m6⟩ := tr_ob.mp tr
  rw [hn] at m0
  cases m0
  obtain ⟨hl2, q⟩ := h
  exact ⟨_, ei, b, dx, _, rfl, m2, zip_nolook hm, call_coreT (ps := ps) (vs := [.ref b]) (dvs := []) R hl2 (show ArL X.K G σ [.tr i] [.ref b] from ⟨_, _, rfl, ei, rfl⟩) (fun _ => RpL.nil) q hz fun G3 ρ3 H3 d v R3 s3 rv q => hq G3 ρ3 H3 v d R3 s3 rv q⟩
end
section
variable {ρ ρ1 ρp : List Sv} {Q : KD} {Z : KX} {c m : Str} {n k i : Nat} {ctr : Ctr} {dds : List D} {as : List Ar} {a : Addr} {t u : AAr} {QA : List Ar → List Sv → Prop} {d : D} {x : Exc}
@[simp ↓] theorem q_rTr : rTr i u ρ QA Z = (isOb ρ i ∧ u ρ (krTr QA i) Z) := keep rfl
@[simp ↓] theorem q_krTr : krTr QA i as ρ = QA (.tr i :: as) ρ := keep rfl
@[simp ↓] theorem q_isOb : isOb ρ i = (match ρ[i]? with
  | some (.tre (.ob _ _ _ _)) => True
  | _ => False) := keep rfl
@[simp ↓] theorem q_isObC : isObC ρ i c m = (match ρ[i]? with
  | some (.tre (.ob _ c' ns _)) => c' = c ∧ m ∉ ns
  | _ => False) := keep rfl
@[simp ↓] theorem q_aDefT : aDefT ctr dds k i t ρ Q Z = t ρ (kDefT Q Z ctr dds k i) Z := keep rfl
@[simp ↓] theorem q_aMethT : aMethT c m n ctr i t ρ Q Z = (isObC ρ i c m ∧ t ρ (kMethT Q Z ctr n i) Z) := keep rfl
@[simp ↓] theorem q_kMethT : kMethT Q Z ctr n i as ρ1 = (as.length + 1 = n ∧ kDefT Q Z ctr [] 0 i (.tr i :: as) ρ1) := keep rfl
@[simp ↓] theorem q_kDefT : kDefT Q Z ctr dds k i as ρ1 = (as[k]? = some (.tr i) ∧ match ρ1[i]? with
  | some (.tre (.ob a c' ns ts)) => lendOk (ρ1.set i (.tre (.hole a))) as ∧ ctr ((as.map (res (ρ1.set i (.tre (.hole a)))) ++ dds.map Sv.dat).set k (.tre (.ob a c' ns ts))) (kTR Q (ρ1.set i (.tre (.hole a))) as k i a) (kTX Z (ρ1.set i (.tre (.hole a))) as k i a)
  | _ => False) := keep rfl
@[simp ↓] theorem q_kTR : kTR Q ρ1 as k i a (.dat d) ρp = (match ρp[k]? with
  | some (.tre (.ob y c ns ts)) => y = a ∧ Q d ((put ρ1 as ρp).set i (.tre (.ob y c ns ts)))
  | _ => False) := keep (by unfold kTR; split <;> rename_i h <;> (try (rename_i h2; cases h2)) <;> simp_all)
@[simp ↓] theorem q_kTX : kTX Z ρ1 as k i a x ρp = (match ρp[k]? with
  | some (.tre (.ob y c ns ts)) => y = a ∧ Z x ((put ρ1 as ρp).set i (.tre (.ob y c ns ts)))
  | _ => False) := keep rfl
@[simp ↓] theorem q_resT : res ρ (.tr i) = .un := keep rfl
@[simp ↓] theorem q_iosT : iosOf (.tr i :: as) = iosOf as := keep rfl
@[simp ↓] theorem q_putT {s : Sv} {ps : List Sv} : put ρ (.tr i :: as) (s :: ps) = put ρ as ps := keep rfl
end
end VS
/-! VS7: objects of one's own with a list in a field: made, read, changed, walked; len by their __len__. -/
namespace VS
open PySem PySem.Spec PyProof.Rows L2
/-- the place of the field f -/
def fAt : List Str → Str → Option Nat
  | [], _ => none
  | n :: ns, f => if (f == n) = true then some 0 else (fAt ns f).map (· + 1)
theorem fAt_zip {f : Str} : ∀ {ns : List Str} {n : Nat} {vs : List V} {w : V}, fAt ns f = some n → vs[n]? = some w → (ns.zip vs).lookup f = some w
  | [], _, _, _, h, _ => by cases h
  | m :: ns, n, vs, w, h, e => by
    unfold fAt at h
    cases vs with
    | nil => simp at e
    | cons v vs =>
      rw [List.zip_cons_cons, List.lookup_cons]
      by_cases q : (f == m) = true
      · rw [if_pos q] at h
        cases h
        rw [q]
        exact e
      · rw [if_neg q] at h
        rw [Bool.not_eq_true] at q
        rw [q]
        obtain ⟨k, hk, rfl⟩ := Option.map_eq_some_iff.mp h
        exact fAt_zip hk (by rw [List.getElem?_cons_succ] at e; exact e)
section
variable {K : PySem.W.Frag} {P : List (Nat × Addr)} {G G' F : Hp} {ρ : List Sv} {σ : St} {H H' : Hp}
/-- a field of an object of one's own -/
theorem Rel.fld {i n : Nat} {a : Addr} {c : Str} {ns : List Str} {ts : List Tr} {u : Tr} (R : Rel K P G F ρ σ H) (e : ρ[i]? = some (.tre (.ob a c ns ts))) (hu : ts[n]? = some u) :
    σ[i]? = some (some (.ref a)) ∧ ∃ C dx vs w, PySem.W.nsIn K mainGlobals c = some (some (.ref C)) ∧ H a = some (.ins C dx (ns.zip vs)) ∧ vs[n]? = some w ∧ TR K G H u w ∧
      ∀ {G' H' : Hp} {u' : Tr}, Same G G' → (∀ b ∈ (Tr.ob a c ns ts).foot, b ∉ u.foot → H' b = H b) → TR K G' H' u' w → TRt K G' H' (.ob a c ns (ts.set n u')) (.ref a) := by
  obtain ⟨v, g1, g2, g3, g4⟩ := R.tr.got i _ e
  have g2 : TR K G H (.ob a c ns ts) v := g2
  obtain ⟨C, dx, vs, m0, rfl, m2, m3, m4, m5, m6⟩ := tr_ob.mp g2
  obtain ⟨w, k1, k2, k3⟩ := TRL.put m6 hu
  refine ⟨g1, C, dx, vs, w, m0, m2, k1, k2, fun {G' H' u'} s hH k => ?_⟩
  rw [foot_ob] at g3 hH
  have na := (List.nodup_cons.mp g3).1
  have aF : a ∉ u.foot := fun z => na (mem_footL hu z)
  show TR K G' H' (.ob a c ns (ts.set n u')) (.ref a)
  exact tr_ob.mpr ⟨C, dx, vs, m0, rfl, by rw [hH a (List.mem_cons_self ..) aF]; exact m2, s _ _ m3, by rw [List.length_set]; exact m4, m5, k3 s (fun b hb hn => hH b (List.mem_cons_of_mem _ hb) hn) (List.nodup_cons.mp g3).2 k⟩
/-- a list in a field, written anew -/
theorem Rel.fldW {i n : Nat} {a b : Addr} {c : Str} {ns : List Str} {ts : List Tr} {xs ys : List D} {ws : List V} (R : Rel K P G F ρ σ H) (e : ρ[i]? = some (.tre (.ob a c ns ts))) (hu : ts[n]? = some (.lst b (xs.map .leaf))) (hy : RpL K G ys ws) :
    Rel K P G F (ρ.set i (.tre (.ob a c ns (ts.set n (.lst b (ys.map .leaf)))))) σ (upd H b (.lst ws)) := by
  obtain ⟨g1, C, dx, vs, w, m0, m2, k1, k2, k3⟩ := R.fld e hu
  obtain ⟨us, rfl, q1, q2⟩ := tr_lst.mp k2
  obtain ⟨v', _, _, g3, _⟩ := R.tr.got i _ e
  have fe : (Tr.lst b (ys.map .leaf)).foot = (Tr.lst b (xs.map .leaf)).foot := by rw [foot_lst, foot_lst, footL_leaf, footL_leaf]
  have bF : b ∈ (Tr.lst b (xs.map .leaf)).foot := by rw [foot_lst]; exact List.mem_cons_self ..
  have fo : (Tr.ob a c ns (ts.set n (.lst b (ys.map .leaf)))).foot = (Tr.ob a c ns ts).foot := by rw [foot_ob, foot_ob, footL_set hu fe]
  refine R.updT e g1 (fun d o hd hn => ?_) (k3 (Same.refl _) (fun d _ hn => upd_ne fun z => hn (by rw [z]; exact bF)) (tr_lst.mpr ⟨ws, rfl, upd_same, trl_leaf.mpr hy⟩)) (by rw [fo]; exact g3) (fun d hd => .inl (by rw [fo] at hd; exact hd))
  rw [upd_ne fun z => hn (by rw [foot_ob, z]; exact List.mem_cons_of_mem _ (mem_footL hu bF))]
  exact hd
end
/-! ### x.f as it stands; an item of it -/
def vTFld (i n : Nat) (c f : Str) : AV := fun ρ Q => match ρ[i]? with
  | some (.tre (.ob _ c' ns ts)) => c' = c ∧ fAt ns f = some n ∧ ∃ b xs, ts[n]? = some (.lst b (xs.map .leaf)) ∧ Q (.lst xs)
  | _ => False
def kFIx (Q : KD) (ρ : List Sv) (xs : List D) : D → Prop := fun k => match k with
  | .int k' => ∃ d, atI xs k' = some d ∧ Q d ρ
  | _ => False
def aFIx (i n : Nat) (c f : Str) (vk : AV) : AE := fun ρ Q _ => match ρ[i]? with
  | some (.tre (.ob _ c' ns ts)) => c' = c ∧ fAt ns f = some n ∧ ∃ b xs, ts[n]? = some (.lst b (xs.map .leaf)) ∧ vk ρ (kFIx Q ρ xs)
  | _ => False
def aFPop (i n : Nat) (c f : Str) : AE := fun ρ Q _ => match ρ[i]? with
  | some (.tre (.ob a c' ns ts)) => c' = c ∧ fAt ns f = some n ∧ ∃ (b : Addr) (xs : List D) (d : D), ts[n]? = some (.lst b (xs.map .leaf)) ∧ xs[xs.length - 1]? = some d ∧ Q d (ρ.set i (.tre (.ob a c' ns (ts.set n (.lst b (xs.dropLast.map .leaf))))))
  | _ => False
def kFApp (E : AEnds) (i n : Nat) (b : Addr) : KD := fun d ρ1 => match ρ1[i]? with
  | some (.tre (.ob a c ns ts)) => ∃ xs, ts[n]? = some (.lst b (xs.map .leaf)) ∧ xs.length < sizeLine ∧ E.nx (ρ1.set i (.tre (.ob a c ns (ts.set n (.lst b ((xs ++ [d]).map .leaf))))))
  | _ => False
def sFApp (i n : Nat) (c f : Str) (te : AE) : AS := fun E ρ => match ρ[i]? with
  | some (.tre (.ob _ c' ns ts)) => c' = c ∧ fAt ns f = some n ∧ ∃ (b : Addr) (xs : List D), ts[n]? = some (.lst b (xs.map .leaf)) ∧ te ρ (kFApp E i n b) E.xx
  | _ => False
def isFx (ρ : List Sv) (i n : Nat) (b : Addr) (xs : List D) : Prop := match ρ[i]? with
  | some (.tre (.ob _ _ _ ts)) => ts[n]? = some (.lst b (xs.map .leaf))
  | _ => False
theorem isFx.ex {ρ : List Sv} {i n : Nat} {b : Addr} {xs : List D} (h : isFx ρ i n b xs) : ∃ a c ns ts, ρ[i]? = some (.tre (.ob a c ns ts)) ∧ ts[n]? = some (.lst b (xs.map .leaf)) := by
  unfold isFx at h
  split at h
  · rename_i a c ns ts e; exact ⟨a, c, ns, ts, e, h⟩
  · exact h.elim
def aLoopF (g : AG) (tb : AS) (E : AEnds) (i n : Nat) (b : Addr) (xs : List D) : List D → List Sv → Prop
  | [], ρ => isFx ρ i n b xs ∧ E.nx ρ
  | d :: ds, ρ => isFx ρ i n b xs ∧ g d ρ fun ρ1 => tb { E with nx := aLoopF g tb E i n b xs ds, ct := aLoopF g tb E i n b xs ds, bk := E.nx } ρ1
def sForF (i n : Nat) (c f : Str) (g : AG) (tb : AS) : AS := fun E ρ => match ρ[i]? with
  | some (.tre (.ob _ c' ns ts)) => c' = c ∧ fAt ns f = some n ∧ ∃ b xs, ts[n]? = some (.lst b (xs.map .leaf)) ∧ aLoopF g tb E i n b xs xs ρ
  | _ => False
def kFldO (E : AEnds) (i : Nat) (c f : Str) : List D → List Sv → Prop := fun xs ρ1 => match ρ1[i]? with
  | some (.tre (.ob a c' ns ts)) => c' = c ∧ f ∉ ns ∧ ns.length < 900 ∧ isX (ns ++ [f]) = false ∧ ∀ b, E.nx (ρ1.set i (.tre (.ob a c' (ns ++ [f]) (ts ++ [.lst b (xs.map .leaf)]))))
  | _ => False
def sFldO (i : Nat) (c f : Str) (to : AO) : AS := fun E ρ => to ρ (kFldO E i c f) E.xx
section
variable {X : Cx} {W : WX} {e ek : Expr} {te : AE} {vk : AV} {f x c : Str} {i n : Nat} {pos p1 p2 p3 apos cpos : Pos}
theorem v_tfld (n : Nat) (ok : FldOk X.K c f) (hi : X.N[i]? = some x := by rfl) (hv : Vis X.env.scope x := by first | exact Or.inl rfl | exact Or.inr (Or.inl rfl) | exact Or.inr (Or.inr rfl)) (hd1 : (x == ("__debug__" : Str)) = false := by decide)
    (hcd : (x == ("__classdict__" : Str)) = false := by decide) (hb : attributeBase (.Name x p1) f X.env (eval (.Name x p1) X.env) = eval (.Name x p1) X.env := by rfl) : VW X (.Attribute (.Name x p1) f pos) (vTFld i n c f) := by
  refine ⟨_, pe_fld (pe_var hi hv hd1 hcd) hb, fun P G F ρ σ H Q Q' R h hq => ?_⟩
  unfold vTFld at h
  split at h
  case h_2 => exact h.elim
  rename_i a c' ns ts e0
  obtain ⟨rfl, hf, b, xs, hu, h⟩ := h
  obtain ⟨g1, C, dx, vs, w, m0, m2, w1, w2, -⟩ := R.fld e0 hu
  obtain ⟨k1, k2⟩ := ok C m0
  obtain ⟨us, rfl, q1, q2⟩ := tr_lst.mp w2
  exact ⟨_, g1, a, C, dx, _, _, rfl, m2, k1, k2, fAt_zip hf w1, hq G H _ _ R (Same.refl _) (Same.refl _) (rp_lst.mpr ⟨b, us, rfl, SqL.of q1, (trl_leaf.mp q2).mono R.sg⟩) h⟩
theorem e_fIx (n : Nat) (ok : FldOk X.K c f) (hk : VW X ek vk) (hi : X.N[i]? = some x := by rfl) (hv : Vis X.env.scope x := by first | exact Or.inl rfl | exact Or.inr (Or.inl rfl) | exact Or.inr (Or.inr rfl)) (hd1 : (x == ("__debug__" : Str)) = false := by decide)
    (hcd : (x == ("__classdict__" : Str)) = false := by decide) (hb : attributeBase (.Name x p1) f X.env (eval (.Name x p1) X.env) = eval (.Name x p1) X.env := by rfl) (hix : PlainIx ek := by exact (fun _ _ => rfl)) : EX X W (.Subscript (.Attribute (.Name x p1) f p2) ek pos) (aFIx i n c f vk) := by
  obtain ⟨T, p, r⟩ := hk.ex
  refine ⟨_, pe_ix ix_list (pe_fld (pe_var hi hv hd1 hcd) hb) p hix, fun P G F ρ σ H Q Z Q' R h hz hq => ?_⟩
  unfold aFIx at h
  split at h
  case h_2 => exact h.elim
  rename_i a c' ns ts e0
  obtain ⟨rfl, hf, b, xs, hu, h⟩ := h
  obtain ⟨g1, C, dx, vs, w, m0, m2, w1, w2, -⟩ := R.fld e0 hu
  obtain ⟨k1, k2⟩ := ok C m0
  obtain ⟨us, rfl, q1, q2⟩ := tr_lst.mp w2
  refine ⟨_, g1, a, C, dx, _, _, rfl, m2, k1, k2, fAt_zip hf w1, r P G F ρ σ H _ _ R h fun G1 H1 u k R1 s1 t1 ru q => ?_⟩
  unfold kFIx at q
  split at q
  · rename_i k'
    obtain ⟨d, hd, q⟩ := q
    obtain ⟨y, y1, y2⟩ := atI_rpl (trl_leaf.mp q2) hd
    exact ⟨b, us, k', y, rfl, rp_int.mp ru, SqL.of (t1 _ _ q1), y1, hq G1 ρ H1 y d R1 s1 (y2.mono s1) q⟩
  · exact q.elim
theorem e_fPop (n : Nat) (ok : FldOk X.K c f) (hi : X.N[i]? = some x := by rfl) (hv : Vis X.env.scope x := by first | exact Or.inl rfl | exact Or.inr (Or.inl rfl) | exact Or.inr (Or.inr rfl)) (hd1 : (x == ("__debug__" : Str)) = false := by decide)
    (hcd : (x == ("__classdict__" : Str)) = false := by decide) (hb : attributeBase (.Name x p1) f X.env (eval (.Name x p1) X.env) = eval (.Name x p1) X.env := by rfl)
    (hp : ∀ U, PE X (.Attribute (.Name x p1) f p2) U → PE X (.Call (.Attribute (.Attribute (.Name x p1) f p2) "pop" apos) [] [] cpos) (tBM0 X.K "list" rPop U) := by exact fun _ h1 => pe_bm0 PySem.F.plainAttrs_list PySem.F.slot_list_pop PySem.F.type_list_pop mt_pop h1) :
    EX X W (.Call (.Attribute (.Attribute (.Name x p1) f p2) "pop" apos) [] [] cpos) (aFPop i n c f) := by
  refine ⟨_, hp _ (pe_fld (pe_var hi hv hd1 hcd) hb), fun P G F ρ σ H Q Z Q' R h hz hq => ?_⟩
  unfold aFPop at h
  split at h
  case h_2 => exact h.elim
  rename_i a c' ns ts e0
  obtain ⟨rfl, hf, b, xs, d, hu, hd, h⟩ := h
  obtain ⟨g1, C, dx, vs, w, m0, m2, w1, w2, -⟩ := R.fld e0 hu
  obtain ⟨k1, k2⟩ := ok C m0
  obtain ⟨us, rfl, q1, q2⟩ := tr_lst.mp w2
  have q3 := trl_leaf.mp q2
  obtain ⟨y, hy, ry⟩ := q3.get hd
  exact ⟨_, g1, a, C, dx, _, _, rfl, m2, k1, k2, fAt_zip hf w1, .inl ⟨rfl, _, .inl (.inl q1)⟩, b, us, y, rfl, rfl, q1, by rw [← q3.length]; exact hy, hq G _ _ y d (R.fldW e0 hu q3.dropLast) (Same.refl _) ry h⟩
theorem s_fApp (n : Nat) (ok : FldOk X.K c f) (he : EX X W e te) (hi : X.N[i]? = some x := by rfl) (hv : Vis X.env.scope x := by first | exact Or.inl rfl | exact Or.inr (Or.inl rfl) | exact Or.inr (Or.inr rfl)) (hd1 : (x == ("__debug__" : Str)) = false := by decide)
    (hcd : (x == ("__classdict__" : Str)) = false := by decide) (hb : attributeBase (.Name x p1) f X.env (eval (.Name x p1) X.env) = eval (.Name x p1) X.env := by rfl)
    (hs : swapsWith (.Call (.Attribute (.Attribute (.Name x p1) f p2) "append" apos) [e] [] cpos) none pos.line X.env = pure false := by rfl)
    (hp : ∀ U T, PE X (.Attribute (.Name x p1) f p2) U → PE X e T → PE X (.Call (.Attribute (.Attribute (.Name x p1) f p2) "append" apos) [e] [] cpos) (tBM X.K "list" rAppend U (tCons T tNil)) := by exact fun _ _ h1 h2 => pe_bm PySem.F.plainAttrs_list PySem.F.slot_list_append PySem.F.type_list_append mt_append h1 (pa_cons h2 pa_nil)) :
    SX X W (.Expr (.Call (.Attribute (.Attribute (.Name x p1) f p2) "append" apos) [e] [] cpos) pos) (sFApp i n c f te) := by
  obtain ⟨T, p, r⟩ := he.ex
  refine ⟨_, ps_expr (hp _ T (pe_fld (pe_var hi hv hd1 hcd) hb) p) hs, fun P G F ρ σ H D D' R h hd => ?_⟩
  unfold sFApp at h
  split at h
  case h_2 => exact h.elim
  rename_i a c' ns ts e0
  obtain ⟨rfl, hf, b, xs, hu, h⟩ := h
  obtain ⟨g1, C, dx, vs, w, m0, m2, w1, w2, -⟩ := R.fld e0 hu
  obtain ⟨k1, k2⟩ := ok C m0
  obtain ⟨us, rfl, q1, q2⟩ := tr_lst.mp w2
  refine ⟨_, g1, a, C, dx, _, _, rfl, m2, k1, k2, fAt_zip hf w1, .inl ⟨rfl, _, .inl (.inl q1)⟩, r P G F ρ σ H _ D.xx _ R h (hd.xx σ) fun G1 ρ1 H1 v d R1 s1 rv q => ?_⟩
  unfold kFApp at q
  split at q
  case h_2 => exact q.elim
  rename_i a1 c1 ns1 ts1 e1
  obtain ⟨ys, hu1, hz, q⟩ := q
  obtain ⟨-, C1, dx1, vs1, w1', -, -, -, y2, -⟩ := R1.fld e1 hu1
  obtain ⟨us1, rfl, y3, y4⟩ := tr_lst.mp y2
  have y5 := trl_leaf.mp y4
  exact ⟨b, us1, v, rfl, rfl, y3, by rw [← y5.length]; exact hz, hd.nx G1 _ σ _ (R1.fldW e1 hu1 (y5.append (RpL.cons rv RpL.nil))) s1 q⟩
theorem s_forF (n : Nat) {tg : Expr} {g : AG} {body : List Stmt} {tb : AS} (ok : FldOk X.K c f) (hp : PassesOwn (model X.prog X.w) X.A X.env X.xe) (hc : X.calm = true) (hg : GX X tg g) (hbd : SXs X W body tb)
    (hi : X.N[i]? = some x := by rfl) (hv : Vis X.env.scope x := by first | exact Or.inl rfl | exact Or.inr (Or.inl rfl) | exact Or.inr (Or.inr rfl)) (hd1 : (x == ("__debug__" : Str)) = false := by decide)
    (hcd : (x == ("__classdict__" : Str)) = false := by decide) (hb : attributeBase (.Name x p1) f X.env (eval (.Name x p1) X.env) = eval (.Name x p1) X.env := by rfl)
    (hs : ∀ z, foldedSetIterable (.Attribute (.Name x p1) f p2) X.env z = pure z := by intro _; rfl) : SX X W (.For tg (.Attribute (.Name x p1) f p2) body [] pos) (sForF i n c f g tb) := by
  obtain ⟨Tg, pg, rg⟩ := hg.ex
  obtain ⟨Tb, pb, rb⟩ := hbd.ex
  refine ⟨_, ps_for hp hc (pi_any (pe_fld (pe_var hi hv hd1 hcd) hb)) pg pb hs, fun P G F ρ σ H D D' R h hd => ?_⟩
  unfold sForF at h
  split at h
  case h_2 => exact h.elim
  rename_i a c' ns ts e0
  obtain ⟨rfl, hf, b, xs, hu, h⟩ := h
  obtain ⟨g1, C, dx, vs, w, m0, m2, w1, w2, -⟩ := R.fld e0 hu
  obtain ⟨k1, k2⟩ := ok C m0
  obtain ⟨us, rfl, q1, q2⟩ := tr_lst.mp w2
  refine ⟨_, g1, a, C, dx, _, _, rfl, m2, k1, k2, fAt_zip hf w1, .inl ⟨b, us, rfl, SqL.of q1, ?_⟩⟩
  have sq : ∀ {ρ' : List Sv} {σ' : St} {G' H' : Hp}, Rel X.K P G' F ρ' σ' H' → isFx ρ' i n b xs → ∃ ws, SqL X.K H' b ws ∧ RpL X.K G' xs ws := fun R' hx => by
    obtain ⟨a1, c1, ns1, ts1, e1, hu1⟩ := hx.ex
    obtain ⟨-, C1, dx1, vs1, w1', -, -, -, y2, -⟩ := R'.fld e1 hu1
    obtain ⟨us1, rfl, y3, y4⟩ := tr_lst.mp y2
    exact ⟨us1, SqL.of y3, trl_leaf.mp y4⟩
  refine ⟨fun k m σ' H' => ∃ G' ρ', Rel X.K P G' F ρ' σ' H' ∧ Same G G' ∧ m = xs.length - k ∧ k ≤ xs.length ∧ aLoopF g tb D i n b xs (xs.drop k) ρ', ⟨_, G, ρ, R, Same.refl _, rfl, Nat.zero_le _, h⟩, ?_⟩
  rintro k m σ' H' ⟨G', ρ', R', s', rfl, hk, q'⟩
  by_cases hlt : k < xs.length
  · rw [List.drop_eq_getElem_cons hlt] at q'
    obtain ⟨hx, q'⟩ := q'
    obtain ⟨ws, z1, z2⟩ := sq R' hx
    obtain ⟨v, z3, z4⟩ := z2.get (List.getElem?_eq_getElem hlt)
    refine .inr ⟨⟨ws, v, z1, z3⟩, fun σ2 H2 => ∃ G' ρ', Rel X.K P G' F ρ' σ2 H2 ∧ Same G G' ∧ aLoopF g tb D i n b xs (xs.drop (k + 1)) ρ', fun σ2 H2 ⟨G2, ρ2, R2, s2, q2⟩ => ⟨_, by omega, G2, ρ2, R2, s2, rfl, hlt, q2⟩, fun y H2 yl => ?_⟩
    obtain ⟨eH, yl⟩ := yl
    subst eH
    have ev := yl ws z1
    rw [z3] at ev
    cases ev
    refine rg P G' F ρ' σ' H2 _ v _ _ R' z4 q' fun ρ3 σ3 R3 q3 => ?_
    refine rb P G' F ρ3 σ3 H2 _ _ R3 q3 ⟨fun G4 ρ4 σ4 H4 R4 s4 q4 => ⟨G4, ρ4, R4, s'.trans s4, q4⟩, fun G4 ρ4 σ4 H4 r v R4 s4 => hd.rt G4 ρ4 σ4 H4 r v R4 (s'.trans s4), fun G4 ρ4 σ4 H4 R4 s4 => hd.nx G4 ρ4 σ4 H4 R4 (s'.trans s4),
      fun G4 ρ4 σ4 H4 R4 s4 q4 => ⟨G4, ρ4, R4, s'.trans s4, q4⟩, fun σ4 => (hd.xx σ4).mono s'⟩
  · have ek : k = xs.length := by omega
    rw [ek, List.drop_length] at q'
    obtain ⟨hx, q'⟩ := q'
    obtain ⟨ws, z1, z2⟩ := sq R' hx
    exact .inl ⟨⟨ws, z1, by rw [← z2.length]; omega⟩, hd.nx G' ρ' σ' H' R' s' q'⟩
theorem s_fldO {to : AO} (ok : FldOk X.K c f) (he : EO X W e to) (hi : X.N[i]? = some x := by rfl) (hv : Vis X.env.scope x := by first | exact Or.inl rfl | exact Or.inr (Or.inl rfl) | exact Or.inr (Or.inr rfl)) (hd1 : (x == ("__debug__" : Str)) = false := by decide)
    (hcd : (x == ("__classdict__" : Str)) = false := by decide) (hs : swapsWith e (some (.Attribute (.Name x p1) f p2)) pos.line X.env = pure false := by rfl) : SX X W (.Assign [.Attribute (.Name x p1) f p2] e pos) (sFldO i c f to) := by
  obtain ⟨T, p, r⟩ := he.ex
  refine ⟨_, ps_fld (pe_var hi hv hd1 hcd) p hs, fun P G F ρ σ H D D' R h hd => ?_⟩
  refine r P G F ρ σ H _ D.xx _ R h (hd.xx σ) fun G1 ρ1 H1 b ws xs R1 s1 h2 h3 h4 hn hr q => ?_
  unfold kFldO at q
  split at q
  case h_2 => exact q.elim
  rename_i a c' ns ts e0
  obtain ⟨rfl, q1, q2, q3, q⟩ := q
  obtain ⟨v0, g1, g2, g3, g4⟩ := R1.tr.got i _ e0
  obtain ⟨C, dx, vs, m0, rfl, m2, m3, m4, m5, m6⟩ := tr_ob.mp g2
  obtain ⟨k1, k2⟩ := ok C m0
  have ml := m6.length
  have lz : (ns.zip vs).length < 1000 := by rw [List.length_zip]; omega
  refine ⟨_, g1, a, C, dx, ns.zip vs, rfl, m2, k1, k2, lz, ?_⟩
  rw [putF_snoc (zip_out q1), zip_snoc (by omega)]
  rw [foot_ob] at g3 g4
  have na := (List.nodup_cons.mp g3).1
  have nb : b ∉ a :: Tr.footL ts := fun hb => hn.tre i _ e0 (by rw [foot_ob]; exact hb)
  have nba : b ≠ a := fun z => nb (by rw [z]; exact List.mem_cons_self ..)
  have fe : (Tr.ob a c' (ns ++ [f]) (ts ++ [.lst b (xs.map .leaf)])).foot = a :: (Tr.footL ts ++ [b]) := by rw [foot_ob, footL_app, footL_cons, foot_lst, footL_leaf, footL_nil]; simp
  have nt : TRL X.K G1 (upd H1 a (.ins C dx ((ns ++ [f]).zip (vs ++ [.ref b])))) (ts ++ [.lst b (xs.map .leaf)]) (vs ++ [.ref b]) :=
    TRL.append (TRL.mono (Same.refl _) (fun d hb => upd_ne fun z => na (by rw [← z]; exact hb)) m6) (trl_cons.mpr ⟨.ref b, [], rfl, tr_lst.mpr ⟨ws, rfl, by rw [upd_ne nba]; exact h2, trl_leaf.mpr hr⟩, trl_nil.mpr rfl⟩)
  have tn : TR X.K G1 (upd H1 a (.ins C dx ((ns ++ [f]).zip (vs ++ [.ref b])))) (.ob a c' (ns ++ [f]) (ts ++ [.lst b (xs.map .leaf)])) (.ref a) :=
    tr_ob.mpr ⟨C, dx, vs ++ [.ref b], m0, rfl, upd_same, m3, by simp; exact m4, q3, nt⟩
  refine hd.nx G1 _ σ _ (R1.updT e0 g1 (fun d o hb hn => ?_) (show TRt X.K G1 _ (.ob a c' (ns ++ [f]) (ts ++ [.lst b (xs.map .leaf)])) (.ref a) from tn) ?_ (fun d hb => ?_)) s1 (q b)
  · rw [upd_ne fun z => hn (by rw [foot_ob, z]; exact List.mem_cons_self ..)]
    exact hb
  · rw [fe]
    have n3 := List.nodup_cons.mp g3
    refine List.nodup_cons.mpr ⟨fun hb => ?_, List.nodup_append.mpr ⟨n3.2, by simp, fun d hd c hc => ?_⟩⟩
    · rcases List.mem_append.mp hb with hb | hb
      · exact na hb
      · exact nba (List.mem_singleton.mp hb).symm
    · rw [List.mem_singleton.mp hc]
      exact fun z => nb (List.mem_cons_of_mem _ (by rw [← z]; exact hd))
  · rw [fe] at hb
    rw [foot_ob]
    rcases List.mem_cons.mp hb with rfl | hb
    · exact .inl (List.mem_cons_self ..)
    · rcases List.mem_append.mp hb with hb | hb
      · exact .inl (List.mem_cons_of_mem _ hb)
      · rw [List.mem_singleton.mp hb]
        exact .inr ⟨h3, h4, hn⟩
end
/-! ### len(x) by the __len__ of x's class -/
def rLenO (X : Cx) (k : Nat) : List V → Hp → VK → Prop := fun xs H Q => ∃ (a C dx f : Addr) (fs : List (Str × V)) (fd : FuncData) (ps : List Str) (sp : Sp), xs = [.ref a] ∧ H a = some (.ins C dx fs) ∧ Meth X.K C "__len__" f ∧ FnG X.prog X.w X.K X.mg X.base k f fd ps sp ∧ Binds X.K fd ps [] ∧
  sp [.ref a] H (fun v H2 => ∃ n : Int, v = .int n ∧ 0 ≤ n ∧ n < 2 ^ 63 ∧ Q v H2) (WE noW [])
theorem cr_lenO {X : Cx} {k : Nat} (rn : Run (k + 1) X) : CallR X (.builtin "len") (rLenO X k) := by
  rintro pins s σ H xs us Q I r ⟨a, C, dx, f, fs, fd, ps, sp, rfl, e, hm, F, hb, h⟩
  obtain ⟨u, rfl, ru⟩ := vals1 r
  obtain rfl : u = Value.ref a := ru
  obtain ⟨mA, O, _, _, _, _⟩ := ins_get I.hok e
  obtain ⟨od, J, -⟩ := O.look
  have hl : [Value.ref a].length = ps.length := by
    have := F.len _ _ _ _ h
    exact this
  refine Calls.call_function_entry kind_len plain_len entry_len (args_len1 _) ?_
  unfold Builtin.«len»
  refine wpAny_bind (m := oneArg "len" _) (wpAny_pure ?_)
  have key : wpAny (model X.prog X.w) X.A.in1 (call (.ref f) [.ref a]) (EP X pins σ (fun v H2 => ∃ n : Int, v = .int n ∧ 0 ≤ n ∧ n < 2 ^ 63 ∧ Q v H2)) X.xe s := by
    refine wpAny_call (codeAny_mono (F.run X.A.in1 X.stack s H ⟨[.ref a], []⟩ [.ref a] [.ref a] _ (WE noW []) rn.hr.in1 rn.hg I.env0.in1 (hb s [.ref a] I.kIn hl) (.cons rfl .nil) h) fun z s' hq => ?_)
    match z, hq with
    | .error e, hq => exact L2N.passAt (tk0 (X := X)) σ pins H s e s' I hq
    | .ok (.ret u), hq => exact I.after hq
  refine wpAny_bind (m := callSpecial? (.ref a) (Str.ofString "__len__")) (PySem.W.special_fn I.kIn J hm.at_ (beq_iff_eq.mp hm.fn) (wpAny_mono key (fun v s' hv => ?_) fun _ _ y => y))
  obtain ⟨w, H2, I2, rw', n, rfl, h0, h1, q⟩ := hv
  obtain ⟨t, rfl⟩ := (show ∃ t, v = Value.int n t from rw')
  refine wpAny_bind (wpAny_holding (wpAny_pure ?_))
  refine wpAny_bind (wpAny_letGo ?_)
  show wpAny _ _ (if n < 0 then _ else _) _ _ _
  rw [if_neg (by omega)]
  show wpAny _ _ (if n ≥ 2 ^ 63 then _ else _) _ _ _
  rw [if_neg (by omega)]
  exact wpAny_bind (wpAny_mkInt (wpAny_pure ⟨_, rfl, ⟨.int n, H2, I2.tok _, ⟨_, rfl⟩, q⟩⟩))
def kLenT (Q : KD) : KD := fun d ρ => match d with
  | .int n => 0 ≤ n ∧ n < 2 ^ 63 ∧ Q d ρ
  | _ => False
def aLenT (c : Str) (ctr : Ctr) (i : Nat) : AE := fun ρ Q _ => isObC ρ i c "__len__" ∧ kDefT (kLenT Q) noX ctr [] 0 i [.tr i] ρ
section
variable {X : Cx} {W : WX} {pos p p1 : Pos}
theorem e_lenT {k : Nat} {c : Str} {ps : List Str} {ctr : Ctr} (i : Nat) {x : Str} (M : MethC X.prog X.w X.K X.mg X.base k c "__len__" ps ctr) (rn : Run (k + 1) X) (hps : ps.length = 1) (hg : Gl X "len") (hm0 : X.mg "len" = none) (hN : X.N[i]? = some x := by rfl) (hv : Vis X.env.scope x := by first | exact Or.inl rfl | exact Or.inr (Or.inl rfl) | exact Or.inr (Or.inr rfl)) (hd : (x == ("__debug__" : Str)) = false := by decide)
    (hcd : (x == ("__classdict__" : Str)) = false := by decide) (hst : starEach [.Name x p1] X.env = (false, eval (.Name x p1) X.env) :: starEach [] X.env := by rfl) (hpl : (backTo pos (starEach [] X.env)).any (·.1) = false := by rfl) :
    EX X W (.Call (.Name "len" p) [.Name x p1] [] pos) (aLenT c ctr i) := by
  obtain ⟨C, f, fd, hn, cl, me, F, hb⟩ := M.ex
  refine ⟨_, pe_callB (cr_lenO rn) hg hm0 boot_len (pa_cons (pe_var hN hv hd hcd) pa_nil hst) (by decide) (by decide) hst hpl, fun P G F' ρ σ H Q Z Q' R ⟨h0, h⟩ hz hq => ?_⟩
  unfold isObC at h0
  split at h0
  case h_2 => exact h0.elim
  rename_i b c' ns ts e
  obtain ⟨rfl, hm⟩ := h0
  obtain ⟨_, ei, tr, _⟩ := R.takeO e
  obtain ⟨C', dx, vs, m0, _, m2, m3, m4, m5, m6⟩ := tr_ob.mp tr
  rw [hn] at m0
  cases m0
  refine ⟨_, ei, b, C, dx, f, _, fd, ps, _, rfl, m2, me, F, hb, ?_⟩
  exact call_coreT (W := noW) (σ := σ) (ps := ps) (vs := [.ref b]) (dvs := []) (Q' := fun v H2 => ∃ n : Int, v = .int n ∧ 0 ≤ n ∧ n < 2 ^ 63 ∧ Q' v H2) R hps.symm (show ArL X.K G σ [.tr i] [.ref b] from ⟨_, _, rfl, ei, rfl⟩) (fun _ => RpL.nil) h xin_no fun G3 ρ3 H3 d v R3 s3 rv q => by
    unfold kLenT at q
    split at q
    · rename_i n
      exact ⟨n, rp_int.mp rv, q.1, q.2.1, hq G3 ρ3 H3 v _ R3 s3 rv q.2.2⟩
    · exact q.elim
end
end VS
/-! VS8: x = C() and x, y = C(), e: an object that is one's own; the rules of simp for VS7. -/
namespace VS
open PySem PySem.Spec PyProof.Rows L2
open Classical in
noncomputable def frT (t : Tr) (H F : Hp) : Hp := fun b => if b ∈ t.foot then H b else F b
theorem frT_yes {t : Tr} {H F : Hp} {b : Addr} (h : b ∈ t.foot) : frT t H F b = H b := by unfold frT; rw [if_pos h]
theorem frT_no {t : Tr} {H F : Hp} {b : Addr} (h : b ∉ t.foot) : frT t H F b = F b := by unfold frT; rw [if_neg h]
section
variable {K : PySem.W.Frag} {P : List (Nat × Addr)} {G G' F : Hp} {ρ : List Sv} {σ : St} {H H' : Hp}
/-- a tree that stands in no slot yet, in the frame -/
theorem Rel.frameT (R : Rel K P G F ρ σ H) {t : Tr} (hg : ∀ b ∈ t.foot, G b = none ∧ NoS ρ σ b) : Rel K P G (frT t H F) ρ σ H where
  len := R.len
  sg := R.sg
  sf := fun b o q => by
    by_cases hb : b ∈ t.foot
    · rw [frT_yes hb] at q; exact q
    · rw [frT_no hb] at q; exact R.sf _ _ q
  gf := fun b o q => by
    by_cases hb : b ∈ t.foot
    · exact (hg b hb).1
    · rw [frT_no hb] at q; exact R.gf b o q
  dat := R.dat
  own := fun i b xs e => by
    obtain ⟨c, us, g1, g2, g3, g4, g5⟩ := R.own i b xs e
    refine ⟨c, us, g1, g2, g3, ?_, g5⟩
    rw [frT_no fun hb => (hg c hb).2.own i b xs e g1]
    exact g4
  ne := R.ne
  pin := R.pin
  pinc := R.pinc
  tr := R.tr.same (Same.refl _) fun i u b e hb => by
    obtain ⟨_, g2, g3⟩ := R.tr.ex e hb
    exact ⟨rfl, g2, by rw [frT_no fun z => (hg b z).2.tre i u e hb]; exact g3⟩
/-- .. still whole behind what others did -/
theorem TRt.framed {t : Tr} {v : V} {ρ2 : List Sv} {σ2 : St} (ht : TRt K G H t v) (hF : ∀ b ∈ t.foot, F b = none) (R : Rel K P G' (frT t H F) ρ2 σ2 H') (s : Same G G') :
    TRt K G' H' t v ∧ Rel K P G' F ρ2 σ2 H' ∧ ∀ b ∈ t.foot, G' b = none ∧ F b = none ∧ NoS ρ2 σ2 b := by
  have key : ∀ b ∈ t.foot, ∃ o, frT t H F b = some o ∧ H b = some o := fun b hb => by
    obtain ⟨o, ho⟩ := ht.ex hb
    exact ⟨o, by rw [frT_yes hb]; exact ho, ho⟩
  refine ⟨ht.mono s fun b hb => ?_, R.unframe fun b o q => ?_, fun b hb => ?_⟩
  · obtain ⟨o, h1, h2⟩ := key b hb
    rw [h2]
    exact R.sf _ _ h1
  · rw [frT_no fun hb => by rw [hF b hb] at q; cases q]
    exact q
  · obtain ⟨o, h1, h2⟩ := key b hb
    exact ⟨R.gf b o h1, hF b hb, NoS.ofF R h1⟩
end
def kMkR (a : Addr) (c : Str) (Q : Addr → List Str → List Tr → Prop) : Sv → List Sv → Prop := fun r ρp => match r, ρp with
  | .dat .non, [.tre (.ob y c' ns ts)] => y = a ∧ c' = c ∧ Q a ns ts
  | _, _ => False
def aMk (c : Str) (ctr : Ctr) (Q : Addr → List Str → List Tr → Prop) : Prop := ∀ a : Addr, ctr [.tre (.ob a c [] [])] (kMkR a c Q) kNoX
def kMk1 (E : AEnds) (ρ : List Sv) (i : Nat) (c : Str) : Addr → List Str → List Tr → Prop := fun a ns ts => E.nx (ρ.set i (.tre (.ob a c ns ts)))
def sMk (c : Str) (ctr : Ctr) (i : Nat) : AS := fun E ρ => okSet ρ i ∧ aMk c ctr (kMk1 E ρ i c)
def kMkD2 (E : AEnds) (i j : Nat) (t : Tr) : KD := fun d ρ1 => okSet ρ1 i ∧ okSet (ρ1.set i (.tre t)) j ∧ E.nx ((ρ1.set i (.tre t)).set j (.dat d))
def kMkD1 (E : AEnds) (ρ : List Sv) (i j : Nat) (c : Str) (te : AE) : Addr → List Str → List Tr → Prop := fun a ns ts => te ρ (kMkD2 E i j (.ob a c ns ts)) noX
def sMkD (c : Str) (ctr : Ctr) (i j : Nat) (te : AE) : AS := fun E ρ => aMk c ctr (kMkD1 E ρ i j c te)
def kMkO2 (E : AEnds) (i j : Nat) (t : Tr) : List D → List Sv → Prop := fun xs ρ1 => okSet ρ1 i ∧ okSet (ρ1.set i (.tre t)) j ∧ E.nx ((ρ1.set i (.tre t)).set j (.own false xs))
def kMkO1 (E : AEnds) (ρ : List Sv) (i j : Nat) (c : Str) (to : AO) : Addr → List Str → List Tr → Prop := fun a ns ts => to ρ (kMkO2 E i j (.ob a c ns ts)) noX
def sMkO (c : Str) (ctr : Ctr) (i j : Nat) (to : AO) : AS := fun E ρ => aMk c ctr (kMkO1 E ρ i j c to)
section
variable {X : Cx} {W : WX} {k : Nat} {C f : Addr} {fd : FuncData} {x c : Str} {ps : List Str} {ctr : Ctr} {p pos : Pos} {P : List (Nat × Addr)} {G F : Hp} {ρ : List Sv} {σ : St} {H : Hp} {sp : Sp}
theorem pe_mk0 (mk : Mk X.K C f) (Fn : FnG X.prog X.w X.K X.mg X.base k f fd ps sp) (rn : Run (k + 1) X) (hg : Gl X x) (hm : X.mg x = some (.ref C)) (hb : Binds X.K fd ps []) (hdb : (x == ("__debug__" : Str)) = false := by decide) :
    PE X (.Call (.Name x p) [] [] pos) (fun σ H Q => ∀ a dx, H a = none → H dx = none → dx ≠ a → sp [.ref a] (upd (upd H dx (.own a)) a (.ins C dx [])) (fun v H2 => v = .non ∧ Q (.ref a) H2) (WE noW σ)) := by
  refine ⟨fun pins s σ H Q I h => wpAny_Call_Name_kw (ld_glob I hg hm ?_ hdb)⟩
  exact PySem.W.callWith_K0 I.kIn mk.kp (run_makeG (us := []) (vs := []) mk Fn rn hb .nil (tk0 (X := X)) I .nil h)
theorem make_core {Q : Addr → List Str → List Tr → Prop} {Q' : VK} (hn : PySem.W.nsIn X.K mainGlobals c = some (some (.ref C))) (hl : ps.length = 1) (R : Rel X.K P G F ρ σ H) (h : aMk c ctr Q)
    (hq : ∀ G' H' a ns ts, Rel X.K P G' F ρ σ H' → Same G G' → TRt X.K G' H' (.ob a c ns ts) (.ref a) → (Tr.ob a c ns ts).foot.Nodup → (∀ b ∈ (Tr.ob a c ns ts).foot, G' b = none ∧ F b = none ∧ NoS ρ σ b) → Q a ns ts → Q' (.ref a) H')
    (a dx : Addr) (hx : H a = none) (hdx : H dx = none) (hne : dx ≠ a) : spV X.K ps.length ctr [.ref a] (upd (upd H dx (.own a)) a (.ins C dx [])) (fun v H2 => v = .non ∧ Q' (.ref a) H2) (WE noW σ) := by
  have g1 := Grow.new (o := .own a) R.sg hdx
  have hx' : (upd H dx (.own a)) a = none := by rw [upd_ne (Ne.symm hne)]; exact hx
  have R2 := (R.grow g1).alloc (p := a) (o := .ins C dx []) hx'
  have gx : G a = none := R.sg.free hx
  have fxn : F a = none := R.sf.free hx
  have G2a : (upd G dx (.own a)) a = none := by rw [upd_ne (Ne.symm hne)]; exact gx
  have ok : lendOk ρ [] := ⟨fun i hi => (by cases hi), List.nodup_nil⟩
  have Rl := R2.lend (as := []) (vs := []) rfl ok.1 ok.2
  have NoA : NoS ρ σ a := ⟨fun i b ys e z => by
    obtain ⟨c, us, k1, k2, _⟩ := R.own i b ys e
    rw [z] at k1
    cases k1
    rw [k2] at hx
    exact absurd hx (by simp), fun i t e hb => by
    obtain ⟨⟨o, k1⟩, _⟩ := R.tr.ex e hb
    rw [k1] at hx
    exact absurd hx (by simp)⟩
  have fmA : frameOf ρ σ (upd (upd H dx (.own a)) a (.ins C dx [])) F [] a = none := by rw [frame_free NoA]; exact fxn
  have Rc := Rel.consU Rl (some (.ref a))
  have Rt := Rc.setT (i := 0) (t := .ob a c [] []) (v := .ref a) trivial (tr_ob.mpr ⟨C, dx, [], hn, rfl, upd_same, upd_same, rfl, rfl, trl_nil.mpr rfl⟩) (by rw [foot_ob, footL_nil]; simp) (fun b hb => by
    rw [foot_ob, footL_nil] at hb
    rw [List.mem_singleton.mp hb]
    exact ⟨G2a, fmA, ⟨fun i b ys e _ => (by cases i <;> cases e), fun i t e => (by cases i <;> cases e)⟩⟩)
  refine ⟨hl.symm, [], _, _, _, _, _, Rt, h a, fun G3 ρp H3 r v B s rr q => ?_, fun G3 ρp H3 x cls d B s e q => q.elim⟩
  unfold kMkR at q
  split at q
  · rename_i y c' ns ts
    obtain ⟨rfl, rfl, q⟩ := q
    have rr' : Rp X.K G3 .non v := rr
    obtain rfl : v = .non := rp_non.mp rr'
    obtain ⟨R3, ⟨w, t1⟩, t2, t3⟩ := R2.backT (as := []) (k := 0) ok B s rfl
    have t1' : TR X.K G3 H3 (.ob y c' ns ts) w := t1
    obtain ⟨C', dx', us, m0, rfl, m2⟩ := tr_ob.mp t1'
    exact ⟨rfl, hq G3 H3 y ns ts R3 (g1.j.trans s) t1 t2 t3 q⟩
  · exact q.elim
theorem s_mkD {i j : Nat} {y z : Str} {py pz pt : Pos} {kt k2 : Nat} {pt2 pos' : Pos} {e : Expr} {te : AE} (hc : X.calm = true) (M : MkI X.prog X.w X.K X.mg X.base k x ps ctr) (rn : Run (k + 1) X) (hps : ps.length = 1) (hg : Gl X x) (hN : X.N.Nodup) (he : EX X noW e te) (hij : i ≠ j := by decide) (hi : X.N[i]? = some y := by rfl) (hj : X.N[j]? = some z := by rfl)
    (hy : X.env.scope.names.lookup y = some .local := by rfl) (hz : X.env.scope.names.lookup z = some .local := by rfl) (hdb : (x == ("__debug__" : Str)) = false := by decide)
    (hw : swappedStores [.Tuple [.Name y py, .Name z pz] kt pt] (.Tuple [.Call (.Name x p) [] [] pos, e] k2 pt2) X.env = pure (some [y, z]) := by rfl) (hs : swapsWithSole [.Tuple [.Name y py, .Name z pz] kt pt] (.Tuple [.Call (.Name x p) [] [] pos, e] k2 pt2) pos'.line X.env = pure false := by rfl)
    (h1 : starEach [.Call (.Name x p) [] [] pos, e] X.env = (false, eval (.Call (.Name x p) [] [] pos) X.env) :: starEach [e] X.env := by rfl) (h2 : starEach [e] X.env = (false, eval e X.env) :: starEach [] X.env := by rfl) :
    SX X W (.Assign [.Tuple [.Name y py, .Name z pz] kt pt] (.Tuple [.Call (.Name x p) [] [] pos, e] k2 pt2) pos') (sMkD x ctr i j te) := by
  obtain ⟨C, f, fd, mk, Fn, hm, hn, hb⟩ := M.ex
  obtain ⟨T, pe, r⟩ := he.ex
  refine ⟨_, ps_par hc hN hi hj hij hy hz (pa_cons (pe_mk0 mk Fn rn hg hm hb hdb) (pa_cons pe pa_nil h2) h1) hw hs, fun P G F ρ σ H D D' R h hd => ?_⟩
  refine make_core (Q' := fun v H1 => tCons T tNil σ H1 (fun vs H2 => ∃ u w, v :: vs = [u, w] ∧ D'.nx ((σ.set i (some u)).set j (some w)) H2)) hn hps R h fun G' H' a ns ts R' s ht nd hfr q => ?_
  refine r P G' _ ρ σ H' _ noX _ (R'.frameT fun b hb => ⟨(hfr b hb).1, (hfr b hb).2.2⟩) q xin_no fun G2 ρ2 H2 v d R2 s2 rv ⟨o1, o2, q⟩ => ?_
  obtain ⟨t1, R3, t3⟩ := ht.framed (fun b hb => (hfr b hb).2.1) R2 s2
  exact ⟨.ref a, v, rfl, hd.nx G2 _ _ H2 ((R3.setT o1 t1 nd t3).setD o2 rv) (s.trans s2) q⟩
end
/-- all parameters written, where some have defaults -/
theorem binds_ofA {K : PySem.W.Frag} {x qual : Str} {params : Arguments} {body : List Stmt} {scope : Scope} {dvs : List V} {kws : List (Str × V)} {f : Addr} {fd : FuncData} {ps : List Str} (n : Nat) (F : FunD K x qual params body scope dvs kws f fd) (hd : dvs ≠ []) (hn : n + (dvs.length - dvs.length) = ps.length)
    (h : ∀ (T : Addr) (kV doc pm : Value) (an : Option Addr) (cdv ct : Value) (us its : List Value), us.length = n → its.length = dvs.length →
      ∃ k, bindArgs (PySem.W.fnOf x qual params body scope (.ref T) kV doc pm an cdv ct) ⟨us, []⟩ = seqItems? (.ref T) >>= k ∧ k (some its.toArray) = pure (ps.zip (us ++ its.drop dvs.length))) : L2.Binds K fd ps [] := by
  obtain ⟨ds, r, b⟩ := F.binds1 n dvs.length hd hn h
  rw [List.drop_length] at r
  cases r
  exact b
/-! ### loops over x.f -/
theorem loopF_of {g : AG} {tb : AS} {E : AEnds} {i n : Nat} {b : Addr} {xs : List D} (I : List D → List Sv → Prop) (hx : ∀ ds ρ, I ds ρ → isFx ρ i n b xs) (h0 : ∀ ρ, I [] ρ → E.nx ρ)
    (hs : ∀ d ds ρ (X : List Sv → Prop), I (d :: ds) ρ → (∀ ρ', I ds ρ' → X ρ') → g d ρ fun ρ1 => tb { E with nx := X, ct := X, bk := E.nx } ρ1) : ∀ ds ρ, I ds ρ → aLoopF g tb E i n b xs ds ρ
  | [], ρ, h => ⟨hx _ _ h, h0 ρ h⟩
  | d :: ds, ρ, h => ⟨hx _ _ h, hs d ds ρ (aLoopF g tb E i n b xs ds) h (loopF_of I hx h0 hs ds)⟩
section
variable {ρ ρ1 ρp : List Sv} {Q : KD} {QV : D → Prop} {Z : KX} {c f : Str} {i j n : Nat} {ctr : Ctr} {a b : Addr} {te : AE} {to : AO} {vk : AV} {d : D} {xs : List D} {E : AEnds} {g : AG} {tb : AS} {k : Int} {ns : List Str} {ts : List Tr} {QM : Addr → List Str → List Tr → Prop} {t : Tr}
@[simp] theorem fAt_one : fAt (f :: ns) f = some 0 := by unfold fAt; simp
@[simp ↓] theorem q_vTFld : vTFld i n c f ρ QV = (match ρ[i]? with
  | some (.tre (.ob _ c' ns ts)) => c' = c ∧ fAt ns f = some n ∧ ∃ (b : Addr) (xs : List D), ts[n]? = some (.lst b (xs.map .leaf)) ∧ QV (.lst xs)
  | _ => False) := keep rfl
@[simp ↓] theorem q_kFIx : kFIx Q ρ xs (.int k) = ∃ d, atI xs k = some d ∧ Q d ρ := keep rfl
@[simp ↓] theorem q_aFIx : aFIx i n c f vk ρ Q Z = (match ρ[i]? with
  | some (.tre (.ob _ c' ns ts)) => c' = c ∧ fAt ns f = some n ∧ ∃ (b : Addr) (xs : List D), ts[n]? = some (.lst b (xs.map .leaf)) ∧ vk ρ (kFIx Q ρ xs)
  | _ => False) := keep rfl
@[simp ↓] theorem q_aFPop : aFPop i n c f ρ Q Z = (match ρ[i]? with
  | some (.tre (.ob a c' ns ts)) => c' = c ∧ fAt ns f = some n ∧ ∃ (b : Addr) (xs : List D) (d : D), ts[n]? = some (.lst b (xs.map .leaf)) ∧ xs[xs.length - 1]? = some d ∧ Q d (ρ.set i (.tre (.ob a c' ns (ts.set n (.lst b (xs.dropLast.map .leaf))))))
  | _ => False) := keep rfl
@[simp ↓] theorem q_kFApp : kFApp E i n b d ρ1 = (match ρ1[i]? with
  | some (.tre (.ob a c ns ts)) => ∃ (xs : List D), ts[n]? = some (.lst b (xs.map .leaf)) ∧ xs.length < sizeLine ∧ E.nx (ρ1.set i (.tre (.ob a c ns (ts.set n (.lst b ((xs ++ [d]).map .leaf))))))
  | _ => False) := keep rfl
@[simp ↓] theorem q_sFApp : sFApp i n c f te E ρ = (match ρ[i]? with
  | some (.tre (.ob _ c' ns ts)) => c' = c ∧ fAt ns f = some n ∧ ∃ (b : Addr) (xs : List D), ts[n]? = some (.lst b (xs.map .leaf)) ∧ te ρ (kFApp E i n b) E.xx
  | _ => False) := keep rfl
@[simp ↓] theorem q_sForF : sForF i n c f g tb E ρ = (match ρ[i]? with
  | some (.tre (.ob _ c' ns ts)) => c' = c ∧ fAt ns f = some n ∧ ∃ (b : Addr) (xs : List D), ts[n]? = some (.lst b (xs.map .leaf)) ∧ aLoopF g tb E i n b xs xs ρ
  | _ => False) := keep rfl
@[simp ↓] theorem q_isFx : isFx ρ i n b xs = (match ρ[i]? with
  | some (.tre (.ob _ _ _ ts)) => ts[n]? = some (.lst b (xs.map .leaf))
  | _ => False) := keep rfl
@[simp ↓] theorem q_sFldO : sFldO i c f to E ρ = to ρ (kFldO E i c f) E.xx := keep rfl
@[simp ↓] theorem q_kFldO : kFldO E i c f xs ρ1 = (match ρ1[i]? with
  | some (.tre (.ob a c' ns ts)) => c' = c ∧ f ∉ ns ∧ ns.length < 900 ∧ isX (ns ++ [f]) = false ∧ ∀ b, E.nx (ρ1.set i (.tre (.ob a c' (ns ++ [f]) (ts ++ [.lst b (xs.map .leaf)]))))
  | _ => False) := keep rfl
@[simp ↓] theorem q_aLenT : aLenT c ctr i ρ Q Z = (isObC ρ i c "__len__" ∧ kDefT (kLenT Q) noX ctr [] 0 i [.tr i] ρ) := keep rfl
@[simp ↓] theorem q_kLenT : kLenT Q (.int k) ρ = (0 ≤ k ∧ k < 2 ^ 63 ∧ Q (.int k) ρ) := keep rfl
@[simp ↓] theorem q_aMk : aMk c ctr QM = ∀ a : Addr, ctr [.tre (.ob a c [] [])] (kMkR a c QM) kNoX := keep rfl
@[simp ↓] theorem q_kMkR {y : Addr} {c' : Str} : kMkR a c QM (.dat .non) [.tre (.ob y c' ns ts)] = (y = a ∧ c' = c ∧ QM a ns ts) := keep rfl
@[simp ↓] theorem q_sMk : sMk c ctr i E ρ = (okSet ρ i ∧ aMk c ctr (kMk1 E ρ i c)) := keep rfl
@[simp ↓] theorem q_kMk1 : kMk1 E ρ i c a ns ts = E.nx (ρ.set i (.tre (.ob a c ns ts))) := keep rfl
@[simp ↓] theorem q_sMkD : sMkD c ctr i j te E ρ = aMk c ctr (kMkD1 E ρ i j c te) := keep rfl
@[simp ↓] theorem q_kMkD1 : kMkD1 E ρ i j c te a ns ts = te ρ (kMkD2 E i j (.ob a c ns ts)) noX := keep rfl
@[simp ↓] theorem q_kMkD2 : kMkD2 E i j t d ρ1 = (okSet ρ1 i ∧ okSet (ρ1.set i (.tre t)) j ∧ E.nx ((ρ1.set i (.tre t)).set j (.dat d))) := keep rfl
@[simp ↓] theorem q_sMkO : sMkO c ctr i j to E ρ = aMk c ctr (kMkO1 E ρ i j c to) := keep rfl
@[simp ↓] theorem q_kMkO1 : kMkO1 E ρ i j c to a ns ts = to ρ (kMkO2 E i j (.ob a c ns ts)) noX := keep rfl
@[simp ↓] theorem q_kMkO2 : kMkO2 E i j t xs ρ1 = (okSet ρ1 i ∧ okSet (ρ1.set i (.tre t)) j ∧ E.nx ((ρ1.set i (.tre t)).set j (.own false xs))) := keep rfl
end
end VS
namespace VS
open PySem PySem.Spec PyProof.Rows L2
/-! ### the law's draws -/
def orC (a b : Ctr) : Ctr := fun ρ Q Z => a ρ Q Z ∨ b ρ Q Z
theorem sat_or {n m : Nat} {b : AS} {c c' : Ctr} (h : Sat n m b c) (h' : Sat n m b c') : Sat n m b (orC c c') := fun ρ Q Z hl h0 => h0.elim (h ρ Q Z hl) (h' ρ Q Z hl)
theorem atI_of {α : Type} {xs : List α} {i : Int} {x : α} (h0 : 0 ≤ i) (h : xs[i.toNat]? = some x) : atI xs i = some x := by
  have hl : i.toNat < xs.length := by
    rcases Nat.lt_or_ge i.toNat xs.length with h' | h'
    · exact h'
    · rw [List.getElem?_eq_none h'] at h; cases h
  have : i < xs.length := by omega
  simp only [atI, ixN, h0, this, if_true, Option.bind_some, h]
@[simp] theorem atI_nat {α : Type} {xs : List α} {i : Nat} : atI xs (i : Int) = xs[i]? := by
  by_cases h : i < xs.length
  · rw [atI_of (x := xs[i]) (by omega) (by rw [Int.toNat_natCast]; exact List.getElem?_eq_getElem h)]; exact (List.getElem?_eq_getElem h).symm
  · have : ¬ (i : Int) < xs.length := by omega
    simp [atI, ixN, this]; omega
@[simp] theorem atI0 {α : Type} {x : α} {xs : List α} : atI (x :: xs) 0 = some x := atI_of (by omega) (by simp)
@[simp] theorem atI1 {α : Type} {x y : α} {xs : List α} : atI (x :: y :: xs) 1 = some y := atI_of (by omega) (by simp)
@[simp] theorem atI2 {α : Type} {x y z : α} {xs : List α} : atI (x :: y :: z :: xs) 2 = some z := atI_of (by omega) (by simp)
@[simp] theorem atI3 {α : Type} {x y z w : α} {xs : List α} : atI (x :: y :: z :: w :: xs) 3 = some w := atI_of (by omega) (by simp)
@[simp] theorem eqv_nil {xs : List D} : PyData.eqv (D.lst xs).py (D.lst []).py = xs.isEmpty := by
  cases xs <;> simp [D.py, D.pyL, PyData.eqv, PyData.eqvAll]
theorem cmul_lit {i j : Int} (h : -(2 ^ 64) < j ∧ j < 2 ^ 64) : CMulA i j := cmulA_r h.1 h.2
/-! ### signs and texts of the law -/
def symC (c : Nat) : Prop := 32 ≤ c ∧ c ≤ 126 ∧ c ≠ 37
instance (c : Nat) : Decidable (symC c) := by unfold symC; infer_instance
def sgn (c : Nat) : Str := ⟨#[c]⟩
theorem atI_last {α : Type} {xs : List α} {x : α} : atI (xs ++ [x]) (-1) = some x := by
  have : ixN (xs ++ [x]).length (-1) = some xs.length := by
    simp only [ixN, List.length_append, List.length_cons, List.length_nil]
    rw [if_neg (by omega), if_pos (by omega)]
    congr 1
    omega
  unfold atI
  rw [this]
  simp
/-- runs next to one another have other signs -/
def Adj : List (Nat × Int) → Prop
  | [] => True
  | [_] => True
  | a :: b :: r => a.1 ≠ b.1 ∧ Adj (b :: r)
theorem Adj.tail {a : Nat × Int} {r : List (Nat × Int)} (h : Adj (a :: r)) : Adj r := by
  cases r with
  | nil => trivial
  | cons b r => exact h.2
theorem adj_snoc : ∀ {ts : List (Nat × Int)} {t : Nat × Int}, Adj ts → (∀ u, ts.getLast? = some u → u.1 ≠ t.1) → Adj (ts ++ [t])
  | [], _, _, _ => trivial
  | [a], t, _, h2 => ⟨h2 a rfl, trivial⟩
  | a :: b :: r, t, h, h2 => ⟨h.1, adj_snoc (ts := b :: r) h.2 fun u e => h2 u (by rw [List.getLast?_cons_cons]; exact e)⟩
def runD (t : Nat × Int) : D := .tup [.str (sgn t.1), .int t.2]
structure GoodText (m l : Int) (ts : List (Nat × Int)) : Prop where
  len : (ts.length : Int) ≤ m
  sym : ∀ t ∈ ts, symC t.1
  pos : ∀ t ∈ ts, 1 ≤ t.2
  top : ∀ t ∈ ts, t.2 ≤ if t.1 = 34 then 3 else l
  adj : Adj ts
/-- a number that is not long -/
def smI (i : Int) : Prop := i.natAbs < 2 ^ 1900
theorem smI.le {a b : Int} (h : smI b) (h0 : 0 ≤ a) (h1 : a ≤ b) : smI a := by unfold smI at *; exact Nat.lt_of_le_of_lt (by omega) h
theorem smI_lit {a : Int} (h : a.natAbs < 2 ^ 1000) : smI a := Nat.lt_of_lt_of_le h (Nat.pow_le_pow_right (by decide) (by decide))
theorem eqOk_sgn {c : Nat} (h : symC c) : (D.str (sgn c)).eqOk := eqOk_of (by simp [D.sok, sgn]; have := h.2.1; omega) (by simp [D.dep])
theorem sok_run {nd : Bool} {t : Nat × Int} (h : symC t.1) (h2 : smI t.2) : (runD t).sok nd = true := by
  simp only [runD, D.sok, D.sokL, sgn, Bool.and_eq_true, Bool.and_true, decide_eq_true_eq]
  refine ⟨?_, Nat.lt_trans (log2_lt (by decide) h2) (by omega)⟩
  have := h.2.1
  simp
  omega
theorem dep_run {t : Nat × Int} : (runD t).dep = 1 := by simp [runD, D.dep, D.depL]
theorem wt_run {t : Nat × Int} : (runD t).wt = 1941 := by
  have e : (sgn t.1).length = 1 := rfl
  simp [runD, D.wt, D.wtL, e]
theorem sok_runs {nd : Bool} {ts : List (Nat × Int)} (h : ∀ t ∈ ts, symC t.1) (h2 : ∀ t ∈ ts, smI t.2) : D.sokL nd (ts.map runD) = true := by
  rw [sokL_iff]
  intro d hd
  obtain ⟨t, ht, rfl⟩ := List.mem_map.mp hd
  exact sok_run (h t ht) (h2 t ht)
theorem dep_runs {ts : List (Nat × Int)} : D.depL (ts.map runD) ≤ 1 := by
  rw [depL_le]
  intro d hd
  obtain ⟨t, ht, rfl⟩ := List.mem_map.mp hd
  rw [dep_run]; omega
theorem eqv_sgn {a b : Nat} : PyData.eqv (D.str (sgn a)).py (D.str (sgn b)).py = (a == b) := by
  simp only [D.py, PyData.eqv]
  by_cases h : a = b
  · subst h
    rw [beq_self_eq_true, beq_self_eq_true]
  · rw [beq_eq_false_iff_ne.mpr h, beq_eq_false_iff_ne.mpr]
    intro e
    simp [sgn] at e
    exact h e
theorem GoodText.sm {m l : Int} {ts : List (Nat × Int)} (h : GoodText m l ts) (hl : smI l) : ∀ t ∈ ts, smI t.2 := fun t ht => by
  have h1 := h.pos t ht
  have h2 := h.top t ht
  by_cases e : t.1 = 34
  · rw [if_pos e] at h2
    exact smI_lit (by omega)
  · rw [if_neg e] at h2
    exact hl.le (by omega) h2
/-! ### lists and tuples exchanged -/
theorem noObj_of {nd : Bool} {d : D} (h : d.sok nd = true) : d.noObj := by cases d <;> first | trivial | simp [D.sok] at h
theorem wt_mem {d : D} : ∀ {xs : List D}, d ∈ xs → d.wt + 2 ≤ D.wtL xs
  | x :: xs, h => by
    simp only [D.wtL]
    rcases List.mem_cons.mp h with rfl | h
    · omega
    · have := wt_mem h; omega
theorem wtL_len : ∀ {xs : List D}, 2 * xs.length ≤ D.wtL xs
  | [] => by simp
  | x :: xs => by have := wtL_len (xs := xs); simp only [D.wtL, List.length_cons]; omega
/-! ### the law's reel -/
/-! ### texts.py: integers, symbols, runs, texts -/
def isIntD (v : D) (lo : Int) (hi : D) : Bool := match v with
  | .int i => decide (lo ≤ i) && (match hi with
    | .int h => decide (i ≤ h)
    | _ => true)
  | _ => false
def c_is_integer : Ctr := fun ρ Q _ => ∃ v lo hi, ρ = [.dat v, .dat (.int lo), .dat hi] ∧ v.noObj ∧ (hi = .non ∨ ∃ h, hi = .int h) ∧ Q (.dat (.bl (isIntD v lo hi))) [.dat v, .dat (.int lo), .dat hi]
/-- is_integer, slots ['value', 'low', 'high']; lends []; gives dat -/
def b_is_integer : AS := sSeq (sIf (aOr (aNot (vTr (vIsi "int" (vVar 0)))) (vTr (vIsi "bool" (vVar 0)))) (sRet (aC (.bl false))) (sNx))
  (sRet (aAndV (aOp bLe (aVar 1) (aVar 0)) (aOrV (aOp bIsN (aVar 2) (aC .non)) (aOp bLe (aVar 0) (aVar 2)))))
theorem p_is_integer : Sat 3 3 b_is_integer c_is_integer := by
  intro ρ Q Z hl h
  obtain ⟨v, lo, hi, rfl, hv, hh, hq⟩ := h
  unfold b_is_integer
  cases v with
  | int i =>
    by_cases h1 : lo ≤ i
    · rcases hh with rfl | ⟨h, rfl⟩
      · simpa [endsA, D.noObj, isTy, isIntD, h1] using hq
      · simpa [endsA, D.noObj, isTy, isIntD, h1] using hq
    · simpa [endsA, D.noObj, isTy, isIntD, h1] using hq
  | obj C ns xs => exact hv.elim
  | _ => simpa [endsA, D.noObj, isTy, isIntD] using hq
@[simp] theorem eqv_int {i j : Int} : PyData.eqv (D.int i).py (D.int j).py = (i == j) := by simp [D.py, PyData.eqv]
@[simp] theorem eqv_str {i j : Str} : PyData.eqv (D.str i).py (D.str j).py = (i == j) := by simp [D.py, PyData.eqv]
theorem ofs32 : Str.ofString " " = sgn 32 := by decide +kernel
theorem ofs126 : Str.ofString "~" = sgn 126 := by decide +kernel
theorem sgn_lt {a b : Nat} : ((sgn a).cps < (sgn b).cps) = (a < b) := by
  rw [← Array.lt_toList]
  simp [sgn, List.cons_lt_cons_iff]
theorem sgn_le {a b : Nat} : ((sgn a).cps ≤ (sgn b).cps) = (a ≤ b) := by
  rw [← Array.le_toList]
  simp [sgn, List.cons_le_cons_iff]
  omega
def symB (s : Str) : Bool := match s.cps.toList with
  | [c] => decide (32 ≤ c) && decide (c ≤ 126) && decide (c ≠ 37)
  | _ => false
def isSymD : D → Bool
  | .str s => symB s
  | _ => false
def c_is_symbol : Ctr := fun ρ Q _ => ∃ v nd, ρ = [.dat v] ∧ v.sok nd = true ∧ v.wt ≤ 16777216 ∧ Q (.dat (.bl (isSymD v))) [.dat v]
/-- is_symbol, slots ['value']; lends []; gives dat -/
def b_is_symbol : AS := sRet (aAndV (aFlat (vIsi "str" (vVar 0))) (aAndV (aOp bEq (aCall bLen (aCons (aVar 0) (aNil))) (aC (.int 1))) (aAndV (aFlat (vChain bLe bLe (vC (.str " ")) (vVar 0) (vC (.str "~")))) (aOp bNe (aCall bOrdC (aCons (aVar 0) (aNil))) (aC (.int 37))))))
theorem p_is_symbol : Sat 1 1 b_is_symbol c_is_symbol := by
  intro ρ Q Z hl h
  obtain ⟨v, nd, rfl, hs, hw, hq⟩ := h
  unfold b_is_symbol
  cases v with
  | str x =>
    have hx : x.length ≤ 16777216 := by simp only [D.wt] at hw; omega
    by_cases h1 : x.length = 1
    · obtain ⟨c, rfl⟩ : ∃ c, x = sgn c := by
        obtain ⟨⟨l⟩⟩ := x
        match l, h1 with
        | [c], _ => exact ⟨c, rfl⟩
      have h37 : symB (sgn c) = (decide (32 ≤ c) && decide (c ≤ 126) && decide (c ≠ 37)) := rfl
      simp [endsA, D.noObj, isTy, size16, h1, ofs32, ofs126, sgn_lt, sgn_le]
      simp only [isSymD, h37] at hq
      by_cases a1 : 32 ≤ c
      · by_cases a2 : c ≤ 126
        · by_cases a3 : c = 37
          · subst a3
            simpa [sgn] using hq
          · have e : ((c : Int) == 37) = false := beq_eq_false_iff_ne.mpr (by omega)
            simp [sgn, a1, a2, a3, e] at hq ⊢
            exact .inr hq
        · simp [a1, a2, show 126 < c by omega] at hq ⊢
          exact .inr hq
      · simp [a1, show c < 32 by omega] at hq ⊢
        exact hq
    · have : symB x = false := by
        unfold symB
        split
        · rename_i c hc; exact (h1 (by simp [Str.length, ← Array.length_toList, hc])).elim
        · rfl
      simp [endsA, D.noObj, isTy, isSymD, h1, hx, this, size16] at hq ⊢
      have h2 : ((x.length : Int) == 1) = false := beq_eq_false_iff_ne.mpr (by omega)
      have h3 : ¬ (x.length : Int) = 1 := by omega
      simpa [h1, h2, h3] using hq
  | obj C ns xs => simp [D.sok] at hs
  | _ => simpa [endsA, D.noObj, isTy, isSymD] using hq
def isRunD (v : D) : Bool := match v.items with
  | some [a, b] => isSymD a && isIntD b 1 .non
  | _ => false
def c_is_run : Ctr := fun ρ Q _ => ∃ v nd, ρ = [.dat v] ∧ v.sok nd = true ∧ v.wt ≤ 16777216 ∧ Q (.dat (.bl (isRunD v))) [.dat v]
/-- is_run, slots ['value']; lends []; gives dat -/
def b_is_run : AS := sSeq (sIf (aOr (aNot (vTr (vIsi2 "list" "tuple" (vVar 0)))) (tCmpV bNe (vCall bLen (vCons (vVar 0) (vNil))) (vC (.int 2)))) (sRet (aC (.bl false))) (sNx))
  (sRet (aAndV (aDef c_is_symbol [] (rDat (aOp bIx (aVar 0) (aC (.int 0))) (rNil))) (aDef c_is_integer [.non] (rDat (aOp bIx (aVar 0) (aC (.int 1))) (rDat (aC (.int 1)) (rNil))))))
theorem p_is_run : Sat 1 1 b_is_run c_is_run := by
  intro ρ Q Z hl h
  obtain ⟨v, nd, rfl, hs, hw, hq⟩ := h
  have main : ∀ xs : List D, v.items = some xs → D.sokL nd xs = true → D.wtL xs ≤ 16777216 → (¬ xs.length = 2 ∧ isRunD v = false) ∨ ∃ a b, xs = [a, b] ∧ a.sok nd = true ∧ b.sok nd = true ∧ a.wt ≤ 16777216 ∧ b.wt ≤ 16777216 ∧ isRunD v = (isSymD a && isIntD b 1 .non) := by
    intro xs hi hs hw
    match xs, hi, hs, hw with
    | [], hi, _, _ => exact .inl ⟨by simp, by simp [isRunD, hi]⟩
    | [a], hi, _, _ => exact .inl ⟨by simp, by simp [isRunD, hi]⟩
    | [a, b], hi, hs, hw =>
      simp only [D.sokL, Bool.and_eq_true] at hs
      simp only [D.wtL] at hw
      exact .inr ⟨a, b, rfl, hs.1, hs.2.1, by omega, by omega, by simp [isRunD, hi]⟩
    | a :: b :: c :: r, hi, _, _ => exact .inl ⟨by simp, by simp [isRunD, hi]⟩
  unfold b_is_run
  cases v with
  | lst xs =>
    simp only [D.sok] at hs
    simp only [D.wt] at hw
    rcases main xs rfl hs (by omega) with ⟨h1, h2⟩ | ⟨a, b, rfl, sa, sb, wa, wb, e⟩
    · have h1' : ¬ (xs.length : Int) = 2 := by omega
      simp [endsA, D.noObj, isTy, h1', h2] at hq ⊢
      exact hq
    · simp [endsA, D.noObj, isTy]
      refine ⟨a, nd, rfl, sa, wa, ?_⟩
      simp
      cases ha : isSymD a with
      | false => simpa [e, ha] using hq
      | true =>
        simp
        refine ⟨b, 1, .non, by simp, noObj_of sb, .inl rfl, ?_⟩
        simpa [e, ha] using hq
  | tup xs =>
    simp only [D.sok] at hs
    simp only [D.wt] at hw
    rcases main xs rfl hs (by omega) with ⟨h1, h2⟩ | ⟨a, b, rfl, sa, sb, wa, wb, e⟩
    · have h1' : ¬ (xs.length : Int) = 2 := by omega
      simp [endsA, D.noObj, isTy, h1', h2] at hq ⊢
      exact hq
    · simp [endsA, D.noObj, isTy]
      refine ⟨a, nd, rfl, sa, wa, ?_⟩
      simp
      cases ha : isSymD a with
      | false => simpa [e, ha] using hq
      | true =>
        simp
        refine ⟨b, 1, .non, by simp, noObj_of sb, .inl rfl, ?_⟩
        simpa [e, ha] using hq
  | obj C ns xs => simp [D.sok] at hs
  | _ => simpa [endsA, D.noObj, isTy, isRunD, D.items] using hq
/-- the sign of a run -/
def headD (v : D) : D := match v.items with
  | some (a :: _) => a
  | _ => .non
/-- neighbours have other signs -/
def adjD : List D → Bool
  | a :: b :: r => !(PyData.eqv (headD a).py (headD b).py) && adjD (b :: r)
  | _ => true
def isTextD (v : D) : Bool := match v.items with
  | some xs => xs.all isRunD && adjD xs
  | _ => false
def c_is_text : Ctr := fun ρ Q _ => ∃ v nd, ρ = [.dat v] ∧ v.sok nd = true ∧ v.wt ≤ 16777216 ∧ Q (.dat (.bl (isTextD v))) [.dat v]
/-- is_text, slots ['value', 'run', 'place']; lends []; gives dat -/
def b_is_text : AS := sSeq (sIf (aOr (aNot (vTr (vIsi2 "list" "tuple" (vVar 0)))) (aNot (aTr (aCall bAll (aCons (aFrz (oLc (iAny (aVar 0)) (agName 1) (aYes) (aDef c_is_run [] (rDat (aVar 1) (rNil))) [1])) (aNil)))))) (sRet (aC (.bl false))) (sNx))
  (sRet (aCall bAll (aCons (aFrz (oLc (iRange1 (aCons (aOp bSub (aCall bLen (aCons (aVar 0) (aNil))) (aC (.int 1))) (aNil))) (agName 2) (aYes) (aOp bNe (aOp bIx (aOp bIx (aVar 0) (aVar 2)) (aC (.int 0))) (aOp bIx (aOp bIx (aVar 0) (aOp bAddB (aVar 2) (aC (.int 1)))) (aC (.int 0)))) [2])) (aNil))))
theorem sokL_mem {nd : Bool} {xs : List D} {d : D} (h : D.sokL nd xs = true) (hd : d ∈ xs) : d.sok nd = true := sokL_iff.mp h d hd
theorem run_items {v : D} (h : isRunD v = true) : ∃ s n, v.items = some [.str s, .int n] ∧ symB s = true := by
  unfold isRunD at h
  split at h
  · rename_i a b e
    rw [Bool.and_eq_true] at h
    cases a <;> simp [isSymD] at h
    cases b <;> simp [isIntD] at h
    exact ⟨_, _, e, h.1⟩
  · cases h
theorem bIx_items {v : D} {xs : List D} {i : Int} {d : D} {Q : D → Prop} (hi : v.items = some xs) (hd : atI xs i = some d) (h : Q d) : bIx v (.int i) Q := by
  cases v with
  | lst ys => cases hi; exact ⟨d, hd, h⟩
  | tup ys => cases hi; exact ⟨d, hd, h⟩
  | _ => cases hi
theorem adj_range {xs : List D} : adjD xs = ((List.range (xs.length - 1)).map fun i => !(PyData.eqv (headD (xs.getD i .non)).py (headD (xs.getD (i + 1) .non)).py)).all id := by
  induction xs with
  | nil => rfl
  | cons a r ih =>
    cases r with
    | nil => rfl
    | cons b r =>
      simp only [adjD, ih, List.length_cons, Nat.add_sub_cancel]
      rw [List.range_succ_eq_map]
      simp [Function.comp_def]
theorem p_is_text : Sat 1 3 b_is_text c_is_text := by
  intro ρ Q Z hl h
  obtain ⟨v, nd, rfl, hs, hw, hq⟩ := h
  have first : ∀ (xs : List D) (Qc : List D → List Sv → Prop), v.items = some xs → D.sokL nd xs = true → D.wtL xs ≤ 16777216 → Qc ((xs.map isRunD).map .bl) [.dat v, .un, .un] →
      aComp (agName 1) aYes (aDef c_is_run [] (rDat (aVar 1) rNil)) [1] Qc xs [] [.dat v, .un, .un] := by
    intro xs Qc hi hs hw hQ
    have hlen := wtL_len (xs := xs)
    refine comp_map (fun d => .bl (isRunD d)) (by rw [size16]; omega) ?_ (by simpa [Function.comp_def] using hQ)
    intro d hd X hX
    have := wt_mem hd
    simp
    exact ⟨d, nd, rfl, sokL_mem hs hd, by omega, by simpa using hX⟩
  have second : ∀ (xs : List D) (Qc : List D → List Sv → Prop), v.items = some xs → D.sokL nd xs = true → xs.all isRunD = true → D.wtL xs ≤ 16777216 → Qc (((List.range (xs.length - 1)).map fun i => !(PyData.eqv (headD (xs.getD i .non)).py (headD (xs.getD (i + 1) .non)).py)).map .bl) [.dat v, .un, .un] →
      aComp (agName 2) aYes (aOp bNe (aOp bIx (aOp bIx (aVar 0) (aVar 2)) (aC (.int 0))) (aOp bIx (aOp bIx (aVar 0) (aOp bAddB (aVar 2) (aC (.int 1)))) (aC (.int 0)))) [2] Qc (rangeD 0 (xs.length - 1)) [] [.dat v, .un, .un] := by
    intro xs Qc hi hs hr hw hQ
    have hlen := wtL_len (xs := xs)
    rw [List.all_eq_true] at hr
    refine comp_map (fun d => match d with | .int i => .bl (!(PyData.eqv (headD (xs.getD i.toNat .non)).py (headD (xs.getD (i.toNat + 1) .non)).py)) | _ => .non) (by rw [rangeD_len, size16]; omega) ?_ (by simpa [rangeD, Function.comp_def] using hQ)
    intro d hd X hX
    obtain ⟨i, hi', rfl⟩ := List.mem_map.mp hd
    rw [List.mem_range] at hi'
    have g1 : xs[i]? = some xs[i] := List.getElem?_eq_getElem (by omega)
    have g2 : xs[i + 1]? = some xs[i + 1] := List.getElem?_eq_getElem (by omega)
    obtain ⟨s1, n1, e1, q1⟩ := run_items (hr xs[i] (List.getElem_mem _))
    obtain ⟨s2, n2, e2, q2⟩ := run_items (hr xs[i + 1] (List.getElem_mem _))
    have ok : ∀ s : Str, symB s = true → (D.str s).eqOk := by
      intro s hs
      obtain ⟨⟨l⟩⟩ := s
      match l, hs with
      | [c], hs =>
        simp [symB] at hs
        exact eqOk_sgn (c := c) ⟨hs.1.1, hs.1.2, hs.2⟩
    simp [g1, g2, headD, e1, e2] at hX
    simp
    refine bIx_items hi (i := (i : Int)) (d := xs[i]) (by rw [atI_nat]; exact g1) ?_
    refine bIx_items e1 (i := 0) atI0 ?_
    refine bIx_items hi (i := (i : Int) + 1) (d := xs[i + 1]) (atI_of (by omega) (by rw [show ((i : Int) + 1).toNat = i + 1 by omega]; exact g2)) ?_
    refine bIx_items e2 (i := 0) atI0 ?_
    exact ⟨.inr ⟨rfl, rfl⟩, by simpa using hX⟩
  have fin : ∀ xs : List D, v.items = some xs → isTextD v = (xs.all isRunD && adjD xs) := fun xs h => by simp [isTextD, h]
  unfold b_is_text
  cases v with
  | lst xs =>
    simp only [D.sok] at hs
    simp only [D.wt] at hw
    have hlen := wtL_len (xs := xs)
    simp [endsA, D.noObj, isTy]
    refine first xs _ rfl hs (by omega) ?_
    refine ⟨_, blsOf_map _, ?_⟩
    cases hr : (xs.map isRunD).all id with
    | false =>
      have : xs.all isRunD = false := by simpa using hr
      rw [fin xs rfl, this] at hq
      simpa using hq
    | true =>
      have hr' : xs.all isRunD = true := by simpa using hr
      simp
      refine ⟨by omega, by omega, ?_⟩
      refine second xs _ rfl hs hr' (by omega) ?_
      refine ⟨_, blsOf_map _, ?_⟩
      rw [fin xs rfl, hr', adj_range] at hq
      simpa using hq
  | tup xs =>
    simp only [D.sok] at hs
    simp only [D.wt] at hw
    have hlen := wtL_len (xs := xs)
    simp [endsA, D.noObj, isTy]
    refine first xs _ rfl hs (by omega) ?_
    refine ⟨_, blsOf_map _, ?_⟩
    cases hr : (xs.map isRunD).all id with
    | false =>
      have : xs.all isRunD = false := by simpa using hr
      rw [fin xs rfl, this] at hq
      simpa using hq
    | true =>
      have hr' : xs.all isRunD = true := by simpa using hr
      simp
      refine ⟨by omega, by omega, ?_⟩
      refine second xs _ rfl hs hr' (by omega) ?_
      refine ⟨_, blsOf_map _, ?_⟩
      rw [fin xs rfl, hr', adj_range] at hq
      simpa using hq
  | obj C ns xs => simp [D.sok] at hs
  | _ => simpa [endsA, D.noObj, isTy, isTextD, D.items] using hq
theorem norm_sok {nd : Bool} {d e : D} (h : d.norm = e.norm) (hs : e.sok nd = true) : d.sok nd = true := by rw [← sok_norm, h, sok_norm]; exact hs
theorem norm_wt {d e : D} (h : d.norm = e.norm) : d.wt = e.wt := by rw [← wt_norm, h, wt_norm]
theorem norm_dep {d e : D} (h : d.norm = e.norm) : d.dep = e.dep := by rw [← dep_norm, h, dep_norm]
theorem norm_pair {v : D} {x : Str} {i : Int} (h : v.norm = .lst [.str x, .int i]) : v.items = some [.str x, .int i] := by
  obtain ⟨xs, h1, h2⟩ := norm_lst h
  match xs, h1, h2 with
  | [], _, h2 => simp at h2
  | [_], _, h2 => simp at h2
  | _ :: _ :: _ :: _, _, h2 => simp at h2
  | [a, b], h1, h2 =>
    simp only [List.map_cons, List.map_nil, List.cons.injEq, and_true] at h2
    rw [h1, norm_str h2.1, norm_int h2.2]
theorem runD_norm {t : Nat × Int} : (runD t).norm = .lst [.str (sgn t.1), .int t.2] := by simp only [runD, D.norm, D.normL]
/-- a text of the law in any dress -/
theorem text_items {v : D} {ts : List (Nat × Int)} (h : v.norm = (D.lst (ts.map runD)).norm) : ∃ xs, v.items = some xs ∧ xs.map D.norm = ts.map fun t => (runD t).norm := by
  simp only [D.norm, normL_map] at h
  obtain ⟨xs, h1, h2⟩ := norm_lst h
  exact ⟨xs, h1, by rw [h2, List.map_map]; rfl⟩
theorem run_norm {x : D} {t : Nat × Int} (h : x.norm = (runD t).norm) (h1 : symC t.1) (h2 : 1 ≤ t.2) : isRunD x = true ∧ headD x = .str (sgn t.1) := by
  rw [runD_norm] at h
  have e := norm_pair h
  have : symB (sgn t.1) = true := by
    simp [symB, sgn]
    exact ⟨⟨h1.1, h1.2.1⟩, h1.2.2⟩
  exact ⟨by simp [isRunD, e, isSymD, isIntD, this, h2], by simp [headD, e]⟩
theorem runs_norm : ∀ {ts : List (Nat × Int)} {xs : List D}, xs.map D.norm = ts.map (fun t => (runD t).norm) → (∀ t ∈ ts, symC t.1) → (∀ t ∈ ts, 1 ≤ t.2) → Adj ts → xs.all isRunD = true ∧ adjD xs = true
  | [], [], _, _, _, _ => ⟨rfl, rfl⟩
  | [], _ :: _, h, _, _, _ => by cases h
  | _ :: _, [], h, _, _, _ => by cases h
  | [t], [x], h, h1, h2, _ => by
    simp only [List.map_cons, List.map_nil, List.cons.injEq, and_true] at h
    simp [(run_norm h (h1 t (by simp)) (h2 t (by simp))).1, adjD]
  | [t], x :: y :: r, h, _, _, _ => by simp at h
  | t :: u :: r, [x], h, _, _, _ => by simp at h
  | t :: u :: ts, x :: y :: xs, h, h1, h2, ha => by
    have h0 : x.norm = (runD t).norm ∧ (y :: xs).map D.norm = (u :: ts).map (fun t => (runD t).norm) := by
      simp only [List.map_cons, List.cons.injEq] at h ⊢
      exact h
    have h3 : y.norm = (runD u).norm := by
      have := h0.2
      simp only [List.map_cons, List.cons.injEq] at this
      exact this.1
    obtain ⟨i1, i2⟩ := runs_norm h0.2 (fun t ht => h1 t (by simp [ht])) (fun t ht => h2 t (by simp [ht])) ha.2
    have a1 := run_norm h0.1 (h1 t (by simp)) (h2 t (by simp))
    have a2 := run_norm h3 (h1 u (by simp)) (h2 u (by simp))
    refine ⟨by rw [List.all_cons, a1.1, i1]; rfl, ?_⟩
    simp only [adjD, a1.2, a2.2, i2, eqv_sgn, Bool.and_true]
    simp [ha.1]
theorem text_wt {ts : List (Nat × Int)} : (D.lst (ts.map runD)).wt ≤ 1943 * ts.length + 3 := by
  have := wtL_le (xs := ts.map runD) (k := 1941) fun d hd => by
    obtain ⟨t, _, rfl⟩ := List.mem_map.mp hd
    exact Nat.le_of_eq wt_run
  rw [List.length_map] at this
  simp only [D.wt]
  omega
theorem text_dep {ts : List (Nat × Int)} : (D.lst (ts.map runD)).dep ≤ 2 := by
  have := dep_runs (ts := ts)
  simp only [D.dep]
  omega
/-! ### texts.py: runs put together, strings -/
abbrev Tx := List (Nat × Int)
/-- a text -/
structure TextOk (ts : Tx) : Prop where
  sym : ∀ t ∈ ts, symC t.1
  pos : ∀ t ∈ ts, 1 ≤ t.2
  adj : Adj ts
  sm : ∀ t ∈ ts, smI t.2
theorem GoodText.ok {m l : Int} {ts : Tx} (h : GoodText m l ts) (hl : smI l) : TextOk ts := ⟨h.sym, h.pos, h.adj, h.sm hl⟩
theorem TextOk.nil : TextOk [] := ⟨by simp, by simp, trivial, by simp⟩
/-- v is the text ts, in lists or tuples -/
structure IsTx (v : D) (ts : Tx) : Prop where
  norm : v.norm = (D.lst (ts.map runD)).norm
  ok : TextOk ts
theorem IsTx.isText {v : D} {ts : Tx} (h : IsTx v ts) : isTextD v = true := by
  obtain ⟨xs, h1, h2⟩ := text_items h.norm
  obtain ⟨a, b⟩ := runs_norm h2 h.ok.sym h.ok.pos h.ok.adj
  simp [isTextD, h1, a, b]
theorem TextOk.sok {nd : Bool} {ts : Tx} (h : TextOk ts) : (D.lst (ts.map runD)).sok nd = true := by simp only [D.sok]; exact sok_runs h.sym h.sm
theorem IsTx.sok {nd : Bool} {v : D} {ts : Tx} (h : IsTx v ts) : v.sok nd = true := norm_sok h.norm h.ok.sok
theorem IsTx.wt {v : D} {ts : Tx} (h : IsTx v ts) : v.wt ≤ 1943 * ts.length + 3 := by rw [norm_wt h.norm]; exact text_wt
theorem IsTx.dep {v : D} {ts : Tx} (h : IsTx v ts) : v.dep ≤ 2 := by rw [norm_dep h.norm]; exact text_dep
theorem TextOk.isTx {ts : Tx} (h : TextOk ts) : IsTx (.lst (ts.map runD)) ts := ⟨rfl, h⟩
theorem run_tuple {x : D} {t : Nat × Int} (h : x.norm = (runD t).norm) : x.items = some [.str (sgn t.1), .int t.2] := by
  rw [runD_norm] at h
  exact norm_pair h
theorem eqOk_runs {ts : Tx} (h : ∀ t ∈ ts, symC t.1) : (D.lst (ts.map runD)).eqOk := by
  have h1 : D.plL true (ts.map runD) = true := by
    clear h
    induction ts with
    | nil => simp [D.plL]
    | cons t ts ih => simp [D.plL, D.pl, runD, ih]
  have h2 : PyData.canLayAll0 (D.pyL (ts.map runD)) = true := by
    induction ts with
    | nil => simp [D.pyL, PyData.canLayAll0]
    | cons t ts ih =>
      have ht := (h t (by simp)).2.1
      have e : PyData.strOk (sgn t.1) = true := by simp [PyData.strOk, sgn]; omega
      have hp : D.plL true (ts.map runD) = true := by simp only [List.map_cons, D.plL, Bool.and_eq_true] at h1; exact h1.2
      simp [D.pyL, D.py, runD, PyData.canLayAll0, PyData.canLay0, e]
      exact ih (fun t ht => h t (by simp [ht])) hp
  have h3 : (D.lst (ts.map runD)).py.depth ≤ 2 := Nat.le_trans depth_py text_dep
  refine ⟨by simp only [D.pl]; exact h1, ?_⟩
  simp only [SeqAt.shaped, Bool.and_eq_true, decide_eq_true_eq]
  exact ⟨by simp only [D.py, PyData.canLay0]; exact h2, by omega⟩
def c_checked_textV : Ctr := fun ρ Q _ => ∃ v ts, ρ = [.dat v] ∧ IsTx v ts ∧ ts.length ≤ 8000 ∧ Q (.own false (ts.map runD)) [.dat v]
def c_checked_textX : Ctr := fun ρ _ Z => ∃ v nd, ρ = [.dat v] ∧ v.sok nd = true ∧ v.wt ≤ 16777216 ∧ isTextD v = false ∧ Z ⟨"InvalidText", none⟩ [.dat v]
def c_checked_text : Ctr := orC c_checked_textV c_checked_textX
/-- checked_text, slots ['text', 'run']; lends []; gives own -/
def b_checked_text : AS := sSeq (sIf (aNot (vTr (vDef c_is_text [] (vCons (vVar 0) (vNil))))) (sRaise0 "InvalidText") (sNx))
  (sRetO (oLc (iAny (aVar 0)) (agName 1) (aYes) (aCall bTuple (aCons (aVar 1) (aNil))) [1]))
theorem map_run : ∀ {xs : List D} {ts : Tx} (f : D → D), xs.map D.norm = ts.map (fun t => (runD t).norm) → (∀ x t, x.norm = (runD t).norm → f x = runD t) → xs.map f = ts.map runD
  | [], [], _, _, _ => rfl
  | [], _ :: _, _, h, _ => by simp at h
  | _ :: _, [], _, h, _ => by simp at h
  | x :: xs, t :: ts, f, h, hf => by
    simp only [List.map_cons, List.cons.injEq] at h ⊢
    exact ⟨hf x t h.1, map_run f h.2 hf⟩
theorem mem_run : ∀ {xs : List D} {ts : Tx} {x : D}, xs.map D.norm = ts.map (fun t => (runD t).norm) → x ∈ xs → ∃ t ∈ ts, x.norm = (runD t).norm
  | [], _, _, _, h => by cases h
  | _ :: _, [], _, h, _ => by simp at h
  | y :: xs, t :: ts, x, h, hx => by
    simp only [List.map_cons, List.cons.injEq] at h
    rcases List.mem_cons.mp hx with rfl | hx
    · exact ⟨t, by simp, h.1⟩
    · obtain ⟨u, hu, e⟩ := mem_run h.2 hx
      exact ⟨u, by simp [hu], e⟩
theorem p_checked_textV : Sat 1 2 b_checked_text c_checked_textV := by
  intro ρ Q Z hl h
  obtain ⟨v, ts, rfl, hv, hlen, hq⟩ := h
  have hw := hv.wt
  have hs : v.sok false = true := hv.sok
  obtain ⟨xs, h1, h2⟩ := text_items hv.norm
  have hl2 : xs.length = ts.length := by have := congrArg List.length h2; simpa using this
  have comp : ∀ Qc : List D → List Sv → Prop, Qc (ts.map runD) [.dat v, .un] → aComp (agName 1) aYes (aCall bTuple (aCons (aVar 1) aNil)) [1] Qc xs [] [.dat v, .un] := by
    intro Qc hQ
    refine comp_map (fun x => match x.items with | some ys => .tup ys | none => x) (by rw [size16]; omega) ?_ ?_
    · intro d hd X hX
      obtain ⟨t, ht, e⟩ := mem_run h2 hd
      have ei := run_tuple e
      simp [ei] at hX
      cases d with
      | lst ys => simp [D.items] at ei; subst ei; simp; exact hX
      | tup ys => simp [D.items] at ei; subst ei; simp; exact hX
      | _ => cases ei
    · rw [map_run _ h2]
      · exact hQ
      · intro x t e
        simp [run_tuple e, runD]
  unfold b_checked_text
  simp [endsA]
  refine ⟨v, false, rfl, hs, by omega, ?_⟩
  simp [hv.isText]
  cases v with
  | lst ys => cases h1; simp; exact comp _ (by simpa using hq)
  | tup ys => cases h1; simp; exact comp _ (by simpa using hq)
  | _ => cases h1
/-! add_run -/
theorem p_checked_textX : Sat 1 2 b_checked_text c_checked_textX := by
  intro ρ Q Z hl h
  obtain ⟨v, nd, rfl, h1, h2, h3, hz⟩ := h
  unfold b_checked_text
  simp [endsA]
  refine ⟨v, nd, rfl, h1, h2, ?_⟩
  simpa [h3] using hz
theorem p_checked_text : Sat 1 2 b_checked_text c_checked_text := sat_or p_checked_textV p_checked_textX
def addRun (ts : Tx) (c : Nat) (n : Int) : Tx := if n < 1 then ts else match ts.getLast? with
  | some u => if u.1 = c then ts.dropLast ++ [(c, u.2 + n)] else ts ++ [(c, n)]
  | none => [(c, n)]
def c_add_run : Ctr := fun ρ Q _ => ∃ ts c n, ρ = [.own true (ts.map runD), .dat (.str (sgn c)), .dat (.int n)] ∧ (∀ t ∈ ts, symC t.1) ∧ ts.length < 16777216 ∧
  Q (.dat .non) [.own true ((addRun ts c n).map runD), .dat (.str (sgn c)), .dat (.int n)]
/-- add_run, slots ['runs', 'symbol', 'count']; lends ['runs']; gives dat -/
def b_add_run : AS := sSeq (sIf (tCmpV bLt (vVar 2) (vC (.int 1))) (sRetN) (sNx))
  (sIf (aAnd (tCmpV bNe (vVar 0) (vLst (vNil))) (tCmpV bEq (vOp bIx (vOp bIx (vVar 0) (vUn bNeg (vC (.int 1)))) (vC (.int 0))) (vVar 1))) (sPutO 0 (aTup (aCons (aVar 1) (aCons (aOp bAddB (aOp bIx (aOwnIx 0 (aUn bNeg (aC (.int 1)))) (aC (.int 1))) (aVar 2)) (aNil)))) (aUn bNeg (aC (.int 1)))) (sAppO 0 (aTup (aCons (aVar 1) (aCons (aVar 2) (aNil))))))
theorem sgn_inj {a b : Nat} : (sgn a = sgn b) = (a = b) := by
  simp [sgn]
theorem beq_sgn {a b : Nat} : (sgn a == sgn b) = (a == b) := by
  by_cases h : a = b
  · subst h; rw [beq_self_eq_true, beq_self_eq_true]
  · rw [beq_eq_false_iff_ne.mpr h, beq_eq_false_iff_ne.mpr (by rw [ne_eq, sgn_inj]; exact h)]
theorem ixN_last {n : Nat} : ixN (n + 1) (-1) = some n := by
  unfold ixN
  rw [if_neg (by omega), if_pos (by omega)]
  congr 1
  omega
theorem set_last {α : Type} {us : List α} {u v : α} : (us ++ [u]).set us.length v = us ++ [v] := by
  rw [List.set_append_right _ _ (Nat.le_refl _)]
  simp
theorem p_add_run : Sat 3 3 b_add_run c_add_run := by
  intro ρ Q Z hl h
  obtain ⟨ts, c, n, rfl, hs, hlen, hq⟩ := h
  unfold b_add_run
  have ok := eqOk_runs hs
  by_cases hn : n < 1
  · have : addRun ts c n = ts := if_pos hn
    rw [this] at hq
    simpa [endsA, hn] using hq
  · rcases List.eq_nil_or_concat ts with rfl | ⟨us, u, hu⟩
    · have e : addRun [] c n = [(c, n)] := by rw [addRun, if_neg hn]; rfl
      rw [e] at hq
      simpa [endsA, hn, runD] using hq
    · rw [List.concat_eq_append] at hu
      have e1 : ts.map runD = us.map runD ++ [.tup [.str (sgn u.1), .int u.2]] := by simp [hu, runD]
      have hne : ts ≠ [] := by simp [hu]
      have hgl : ts.getLast? = some u := by simp [hu]
      have hdl : ts.dropLast = us := by simp [hu]
      rw [e1] at ok hl
      have hul : us.length + 1 < 16777216 := by simp [hu] at hlen; omega
      by_cases huc : u.1 = c
      · have e : addRun ts c n = us ++ [(c, u.2 + n)] := by simp [addRun, hn, hgl, huc, hdl]
        rw [e] at hq
        subst huc
        simp [endsA, hn, e1, ok, atI_last, beq_sgn, ixN_last]
        simpa [runD] using hq
      · have e : addRun ts c n = ts ++ [(c, n)] := by simp [addRun, hn, hgl, huc]
        rw [e, List.map_append, e1] at hq
        simp [endsA, hn, e1, ok, atI_last, beq_sgn, huc]
        exact ⟨hul, by simpa [runD] using hq⟩
theorem addRun_sym {ts : Tx} {c : Nat} {n : Int} (h : ∀ t ∈ ts, symC t.1) (hc : symC c) : ∀ t ∈ addRun ts c n, symC t.1 := by
  unfold addRun
  split
  · exact h
  · split
    · split
      · intro t ht
        rcases List.mem_append.mp ht with ht | ht
        · exact h t (List.dropLast_subset _ ht)
        · rw [List.mem_singleton.mp ht]; exact hc
      · intro t ht
        rcases List.mem_append.mp ht with ht | ht
        · exact h t ht
        · rw [List.mem_singleton.mp ht]; exact hc
    · intro t ht
      rw [List.mem_singleton.mp ht]; exact hc
theorem addRun_len {ts : Tx} {c : Nat} {n : Int} : (addRun ts c n).length ≤ ts.length + 1 := by
  unfold addRun
  split
  · omega
  · split
    · split
      · simp
      · simp
    · simp
/-- the string of a text -/
def expand (ts : Tx) : List Nat := ts.flatMap fun t => List.replicate t.2.toNat t.1
def size (ts : Tx) : Int := (ts.map (·.2)).sum
theorem adj_change : ∀ {us : Tx} {u v : Nat × Int}, Adj (us ++ [u]) → u.1 = v.1 → Adj (us ++ [v])
  | [], _, _, _, _ => trivial
  | [a], u, v, h, e => ⟨by rw [← e]; exact h.1, trivial⟩
  | a :: b :: r, u, v, h, e => ⟨h.1, adj_change (us := b :: r) h.2 e⟩
theorem addRun_cases (ts : Tx) (c : Nat) (n : Int) : (n < 1 ∧ addRun ts c n = ts) ∨ (1 ≤ n ∧ ((∃ us m, ts = us ++ [(c, m)] ∧ addRun ts c n = us ++ [(c, m + n)]) ∨ ((∀ u, ts.getLast? = some u → u.1 ≠ c) ∧ addRun ts c n = ts ++ [(c, n)]))) := by
  by_cases hn : n < 1
  · exact .inl ⟨hn, if_pos hn⟩
  · refine .inr ⟨by omega, ?_⟩
    rcases List.eq_nil_or_concat ts with rfl | ⟨us, u, hu⟩
    · exact .inr ⟨by simp, by rw [addRun, if_neg hn]; rfl⟩
    · rw [List.concat_eq_append] at hu
      subst hu
      by_cases huc : u.1 = c
      · refine .inl ⟨us, u.2, by rw [← huc], by simp [addRun, hn, huc]⟩
      · exact .inr ⟨fun v hv => by simp at hv; rw [← hv]; exact huc, by simp [addRun, hn, huc]⟩
theorem addRun_expand {ts : Tx} {c : Nat} {n : Int} (h : ∀ t ∈ ts, 1 ≤ t.2) : expand (addRun ts c n) = expand ts ++ List.replicate n.toNat c := by
  rcases addRun_cases ts c n with ⟨h1, e⟩ | ⟨h1, ⟨us, m, rfl, e⟩ | ⟨_, e⟩⟩
  · rw [e, show n.toNat = 0 by omega]; simp
  · have hm := h (c, m) (by simp)
    rw [e]
    have : (m + n).toNat = m.toNat + n.toNat := by simp at hm; omega
    simp [expand, this, List.replicate_append_replicate]
  · rw [e]; simp [expand]
theorem addRun_adj {ts : Tx} {c : Nat} {n : Int} (h : Adj ts) : Adj (addRun ts c n) := by
  rcases addRun_cases ts c n with ⟨h1, e⟩ | ⟨h1, ⟨us, m, rfl, e⟩ | ⟨h2, e⟩⟩
  · rw [e]; exact h
  · rw [e]; exact adj_change h rfl
  · rw [e]; exact adj_snoc h h2
theorem addRun_pos {ts : Tx} {c : Nat} {n : Int} (h : ∀ t ∈ ts, 1 ≤ t.2) : ∀ t ∈ addRun ts c n, 1 ≤ t.2 := by
  rcases addRun_cases ts c n with ⟨h1, e⟩ | ⟨h1, ⟨us, m, rfl, e⟩ | ⟨h2, e⟩⟩
  · rw [e]; exact h
  · rw [e]
    intro t ht
    rcases List.mem_append.mp ht with ht | ht
    · exact h t (by simp [ht])
    · have := h (c, m) (by simp)
      rw [List.mem_singleton.mp ht]; simp at this ⊢; omega
  · rw [e]
    intro t ht
    rcases List.mem_append.mp ht with ht | ht
    · exact h t ht
    · rw [List.mem_singleton.mp ht]; exact h1
theorem size_nonneg {ts : Tx} (h : ∀ t ∈ ts, 1 ≤ t.2) : (ts.length : Int) ≤ size ts := by
  induction ts with
  | nil => simp [size]
  | cons t ts ih =>
    have h1 := h t (by simp)
    have h2 := ih fun t ht => h t (by simp [ht])
    simp only [size, List.map_cons, List.sum_cons, List.length_cons] at h2 ⊢
    omega
theorem size_expand {ts : Tx} (h : ∀ t ∈ ts, 1 ≤ t.2) : size ts = (expand ts).length := by
  induction ts with
  | nil => rfl
  | cons t ts ih =>
    have h1 := h t (by simp)
    have h2 := ih fun t ht => h t (by simp [ht])
    simp only [size, expand, List.map_cons, List.sum_cons, List.flatMap_cons, List.length_append, List.length_replicate] at h2 ⊢
    omega
theorem le_size {ts : Tx} (h : ∀ t ∈ ts, 1 ≤ t.2) {t : Nat × Int} (ht : t ∈ ts) : t.2 ≤ size ts := by
  induction ts with
  | nil => cases ht
  | cons u ts ih =>
    have h1 := h u (by simp)
    have h3 := size_nonneg (ts := ts) fun t ht => h t (by simp [ht])
    simp only [size, List.map_cons, List.sum_cons] at h3 ⊢
    rcases List.mem_cons.mp ht with rfl | ht
    · omega
    · have h2 := ih (fun t ht => h t (by simp [ht])) ht
      simp only [size] at h2
      omega
/-! packed strings -/
def strL (l : List Nat) : Str := ⟨l.toArray⟩
@[simp] theorem strL_len {l : List Nat} : (strL l).length = l.length := by simp [strL, Str.length]
/-! size_of, pack, unpack -/
/-! strings of the laws -/
/-! ### texts.py: positions, parts, texts joined -/
/-- the runs from a to b - 1; p: where the first of them begins -/
def partF (a b : Int) : Int → Tx → Tx → Tx
  | _, [], acc => acc
  | p, t :: us, acc => partF a b (p + t.2) us (if min (p + t.2) b - max p a < 1 then acc else acc ++ [(t.1, min (p + t.2) b - max p a)])
def part (ts : Tx) (a b : Int) : Tx := partF a b 0 ts []
/-- runs put behind runs -/
def addRuns (ts us : Tx) : Tx := us.foldl (fun acc t => addRun acc t.1 t.2) ts
theorem addRuns_ok : ∀ {us ts : Tx}, (∀ t ∈ ts, symC t.1) → (∀ t ∈ ts, 1 ≤ t.2) → Adj ts → (∀ t ∈ us, symC t.1) → (∀ t ∈ us, 1 ≤ t.2) →
    (∀ t ∈ addRuns ts us, symC t.1) ∧ (∀ t ∈ addRuns ts us, 1 ≤ t.2) ∧ Adj (addRuns ts us) ∧ expand (addRuns ts us) = expand ts ++ expand us ∧ (addRuns ts us).length ≤ ts.length + us.length
  | [], ts, h1, h2, h3, _, _ => ⟨h1, h2, h3, by simp [addRuns, expand], by simp [addRuns]⟩
  | t :: us, ts, h1, h2, h3, h4, h5 => by
    obtain ⟨k1, k2, k3, k4, k5⟩ := addRuns_ok (us := us) (ts := addRun ts t.1 t.2) (addRun_sym h1 (h4 t (by simp))) (addRun_pos h2) (addRun_adj h3) (fun t ht => h4 t (by simp [ht])) (fun t ht => h5 t (by simp [ht]))
    refine ⟨k1, k2, k3, ?_, ?_⟩
    · show expand (addRuns (addRun ts t.1 t.2) us) = _
      rw [k4, addRun_expand h2]
      simp [expand]
    · show (addRuns (addRun ts t.1 t.2) us).length ≤ _
      have := addRun_len (ts := ts) (c := t.1) (n := t.2)
      simp only [List.length_cons]
      omega
def c_add_runs : Ctr := fun ρ Q _ => ∃ ts us, ρ = [.own true (ts.map runD), .dat (.lst (us.map runD))] ∧ (∀ t ∈ ts, symC t.1) ∧ (∀ t ∈ us, symC t.1) ∧ ts.length + us.length ≤ 1000000 ∧ Q (.dat .non) [.own true ((addRuns ts us).map runD), .dat (.lst (us.map runD))]
/-- add_runs, slots ['runs', 'other', 'symbol', 'count']; lends ['runs']; gives dat -/
def b_add_runs : AS := sFor (iAny (aVar 1)) (agTup (agCons (agName 2) (agCons (agName 3) (agNil)))) (sDrop (aDef c_add_run [] (rIo 0 (rDat (aVar 2) (rDat (aVar 3) (rNil))))))
theorem p_add_runs : Sat 2 4 b_add_runs c_add_runs := by
  intro ρ Q Z hl h
  obtain ⟨ts, us, rfl, h1, h2, hlen, hq⟩ := h
  unfold b_add_runs
  simp [endsA]
  refine loop_of (fun ds ρ => ∃ (acc ws : Tx) (v2 v3 : Sv), ρ = [.own true (acc.map runD), .dat (.lst (us.map runD)), v2, v3] ∧ noV v2 ∧ noV v3 ∧ ds = ws.map runD ∧ (∀ t ∈ acc, symC t.1) ∧ (∀ t ∈ ws, symC t.1) ∧ acc.length + ws.length ≤ 1000000 ∧ addRuns acc ws = addRuns ts us) ?_ ?_ _ _ ⟨ts, us, .un, .un, rfl, trivial, trivial, rfl, h1, h2, hlen, rfl⟩
  · rintro ρ ⟨acc, ws, v2, v3, rfl, -, -, hu, -, -, -, e⟩
    have : ws = [] := by cases ws with
      | nil => rfl
      | cons _ _ => cases hu
    subst this
    have e' : acc = addRuns ts us := e
    subst e'
    simpa using hq
  · rintro d ds ρ X ⟨acc, ws, v2, v3, rfl, n2, n3, hu, hs, hw, hln, e⟩ hX
    obtain ⟨t, ws, rfl, rfl, rfl⟩ : ∃ t us', ws = t :: us' ∧ d = runD t ∧ ds = us'.map runD := by
      cases ws with
      | nil => simp at hu
      | cons t us' => simp at hu; exact ⟨t, us', rfl, hu.1, hu.2⟩
    simp only [List.length_cons] at hln
    simp [runD, okV_of n2, okV_of n3]
    refine ⟨acc, t.1, t.2, rfl, hs, by omega, ?_⟩
    simp
    have := addRun_len (ts := acc) (c := t.1) (n := t.2)
    exact hX _ ⟨_, ws, _, _, rfl, trivial, trivial, rfl, addRun_sym hs (hw t (by simp)), fun t ht => hw t (by simp [ht]), by omega, e⟩
def c_appended : Ctr := fun ρ Q _ => ∃ v w ts us, ρ = [.dat v, .dat w] ∧ IsTx v ts ∧ IsTx w us ∧ ts.length ≤ 8000 ∧ us.length ≤ 8000 ∧ Q (.own false ((addRuns ts us).map runD)) [.dat v, .dat w]
/-! ### escaping.py: parts, groups, escaped texts -/
/-- a run of plain symbols, or a group -/
inductive Prt where
  | grp (st sz : Int) (q : Bool) (many : Int)
  | pln (st : Int) (c : Nat) (n : Int)
def q01 (q : Bool) : Int := if q then 1 else 0
/-- the parts of the runs that stand at st behind sl backslashes -/
def parts : Tx → Int → Int → List Prt
  | [], st, sl => if 0 < sl then [.grp (st - sl) sl false 1] else []
  | t :: ts, st, sl =>
    if t.1 = 92 then parts ts (st + t.2) t.2
    else if t.1 = 34 then
      if 0 < sl then .grp (st - sl) (sl + 1) true 1 :: (if t.2 > 1 then .grp (st + 1) 1 true (t.2 - 1) :: parts ts (st + t.2) 0 else parts ts (st + t.2) 0)
      else .grp (st + 0) 1 true (t.2 - 0) :: parts ts (st + t.2) 0
    else if 0 < sl then .grp (st - sl) sl false 1 :: .pln st t.1 t.2 :: parts ts (st + t.2) 0 else .pln st t.1 t.2 :: parts ts (st + t.2) 0
def grpL (sz : Int) (q : Bool) : List Nat := List.replicate (sz - q01 q).toNat 92 ++ List.replicate (q01 q).toNat 34
/-- the string of a part, its groups u times as large -/
def Prt.str (u : Int) : Prt → List Nat
  | .grp _ sz q m => (List.replicate m.toNat (grpL (sz * u) q)).flatten
  | .pln _ c n => List.replicate n.toNat c
/-- what is known of each part -/
def Prt.ok : Prt → Prop
  | .grp _ sz _ m => 1 ≤ sz ∧ 1 ≤ m
  | .pln _ c n => symC c ∧ c ≠ 92 ∧ c ≠ 34 ∧ 1 ≤ n
theorem parts_ok : ∀ {ts : Tx} {st sl : Int}, (∀ t ∈ ts, symC t.1) → (∀ t ∈ ts, 1 ≤ t.2) → ∀ p ∈ parts ts st sl, p.ok
  | [], st, sl, _, _, p, hp => by
    unfold parts at hp
    split at hp
    · rw [List.mem_singleton.mp hp]; exact ⟨by omega, by omega⟩
    · cases hp
  | t :: ts, st, sl, h1, h2, p, hp => by
    have ih := fun st sl => parts_ok (ts := ts) (st := st) (sl := sl) (fun t ht => h1 t (by simp [ht])) (fun t ht => h2 t (by simp [ht])) p
    have s := h1 t (by simp)
    have n := h2 t (by simp)
    unfold parts at hp
    split at hp
    · exact ih _ _ hp
    · split at hp
      · split at hp
        · rcases List.mem_cons.mp hp with rfl | hp
          · exact ⟨by omega, by omega⟩
          · split at hp
            · rcases List.mem_cons.mp hp with rfl | hp
              · exact ⟨by omega, by omega⟩
              · exact ih _ _ hp
            · exact ih _ _ hp
        · rcases List.mem_cons.mp hp with rfl | hp
          · exact ⟨by omega, by omega⟩
          · exact ih _ _ hp
      · split at hp
        · rcases List.mem_cons.mp hp with rfl | hp
          · exact ⟨by omega, by omega⟩
          · rcases List.mem_cons.mp hp with rfl | hp
            · exact ⟨s, by assumption, by assumption, n⟩
            · exact ih _ _ hp
        · rcases List.mem_cons.mp hp with rfl | hp
          · exact ⟨s, by assumption, by assumption, n⟩
          · exact ih _ _ hp
/-- each sign, escaped k times -/
def escC (k : Nat) (c : Nat) : List Nat := if c = 92 then List.replicate (2 ^ k) 92 else if c = 34 then List.replicate (2 ^ k - 1) 92 ++ [34] else [c]
def escS (k : Nat) (l : List Nat) : List Nat := l.flatMap (escC k)
theorem escS_app {k : Nat} {l m : List Nat} : escS k (l ++ m) = escS k l ++ escS k m := by simp [escS]
theorem escS_rep92 {k n : Nat} : escS k (List.replicate n 92) = List.replicate (n * 2 ^ k) 92 := by
  induction n with
  | zero => simp [escS]
  | succ n ih =>
    have : escS k (List.replicate (n + 1) 92) = escC k 92 ++ escS k (List.replicate n 92) := by simp [escS, List.replicate_succ]
    rw [this, ih]
    simp [escC, List.replicate_append_replicate, Nat.succ_mul, Nat.add_comm]
theorem escS_rep34 {k n : Nat} : escS k (List.replicate n 34) = (List.replicate n (List.replicate (2 ^ k - 1) 92 ++ [34])).flatten := by
  simp [escS, escC, List.flatMap]
theorem escS_repC {k n c : Nat} (h1 : c ≠ 92) (h2 : c ≠ 34) : escS k (List.replicate n c) = List.replicate n c := by
  induction n with
  | zero => simp [escS]
  | succ n ih =>
    have : escS k (List.replicate (n + 1) c) = escC k c ++ escS k (List.replicate n c) := by simp [escS, List.replicate_succ]
    rw [this, ih]
    simp [escC, h1, h2, List.replicate_succ]
theorem escS_flat {k : Nat} {ls : List (List Nat)} : escS k ls.flatten = (ls.map (escS k)).flatten := by
  induction ls with
  | nil => simp [escS]
  | cons a ls ih => simp [escS_app, ih]
theorem pow_pos2 (k : Nat) : 1 ≤ 2 ^ k := Nat.one_le_two_pow
theorem grp_num {n u : Nat} (hu : 1 ≤ u) : (((n : Int) + 1) * (u : Int) - 1).toNat = n * u + (u - 1) ∧ (((n : Int) + 1) * (u : Int)).toNat = n * u + u := by
  have : ((n : Int) + 1) * (u : Int) = ((n * u + u : Nat) : Int) := by rw [Int.add_mul, Int.one_mul]; rfl
  rw [this]
  generalize n * u = w
  omega
theorem escS_grp {k : Nat} {sz : Int} {q : Bool} (h : 1 ≤ sz) : escS k (grpL sz q) = grpL (sz * 2 ^ k) q := by
  have e1 : ((2 : Int) ^ k) = ((2 ^ k : Nat) : Int) := by norm_cast
  obtain ⟨n, rfl⟩ : ∃ n : Nat, sz = (n : Int) + 1 := ⟨(sz - 1).toNat, by omega⟩
  obtain ⟨g1, g2⟩ := grp_num (n := n) (pow_pos2 k)
  unfold grpL
  rw [escS_app, e1]
  cases q with
  | false =>
    have h1 : ((n : Int) + 1).toNat = n + 1 := by omega
    simp only [q01, Bool.false_eq_true, if_false, Int.sub_zero, g2, h1, escS_rep92, Nat.succ_mul]
    simp [escS]
  | true =>
    have h1 : ((n : Int) + 1 - 1).toNat = n := by omega
    have h3 : (1 : Int).toNat = 1 := rfl
    simp only [q01, if_true, g1, h1, escS_rep92, escS_rep34, h3]
    simp [← List.append_assoc, List.replicate_append_replicate]
theorem escS_part {k : Nat} {p : Prt} (h : p.ok) : escS k (p.str 1) = p.str (2 ^ k) := by
  cases p with
  | grp st sz q m =>
    simp only [Prt.str, escS_flat, List.map_replicate, Int.mul_one]
    rw [escS_grp h.1]
  | pln st c n => simp only [Prt.str]; exact escS_repC h.2.1 h.2.2.1
theorem expand_cons {t : Nat × Int} {ts : Tx} : expand (t :: ts) = List.replicate t.2.toNat t.1 ++ expand ts := by simp [expand]
theorem flat_rep34 (n : Nat) : (List.replicate n (grpL (1 * 1) true)).flatten = List.replicate n 34 := by
  induction n with
  | zero => rfl
  | succ n ih => rw [List.replicate_succ, List.flatten_cons, ih]; rfl
theorem parts_str : ∀ {ts : Tx} {st sl : Int}, (∀ t ∈ ts, 1 ≤ t.2) → 0 ≤ sl → (0 < sl → ∀ t, ts.head? = some t → t.1 ≠ 92) → Adj ts → (parts ts st sl).flatMap (Prt.str 1) = List.replicate sl.toNat 92 ++ expand ts
  | [], st, sl, _, h0, _, _ => by
    unfold parts
    by_cases h : 0 < sl
    · simp [h, Prt.str, grpL, q01, expand]
    · have : sl = 0 := by omega
      simp [this, expand]
  | t :: ts, st, sl, h1, h0, hh, ha => by
    have n := h1 t (by simp)
    have ih := fun st sl => parts_str (ts := ts) (st := st) (sl := sl) fun t ht => h1 t (by simp [ht])
    have nx : t.1 = 92 → ∀ u, ts.head? = some u → u.1 ≠ 92 := fun e u hu => by
      cases ts with
      | nil => cases hu
      | cons w ts => cases hu; rw [← e]; exact fun z => ha.1 z.symm
    have no : (0 : Int) < 0 → ∀ u, ts.head? = some u → u.1 ≠ 92 := fun e => absurd e (by omega)
    rw [expand_cons]
    unfold parts
    by_cases c1 : t.1 = 92
    · have hsl : sl = 0 := by
        by_cases h : 0 < sl
        · exact absurd c1 (hh h t rfl)
        · omega
      rw [if_pos c1, ih _ _ (by omega) (fun _ => nx c1) ha.tail, hsl, c1]
      simp
    · rw [if_neg c1]
      have e0 := ih (st + t.2) 0 (by omega) no ha.tail
      simp only [Int.toNat_zero, List.replicate_zero, List.nil_append] at e0
      by_cases c2 : t.1 = 34
      · rw [if_pos c2, c2]
        by_cases h : 0 < sl
        · rw [if_pos h]
          have e1 : (sl + 1 - q01 true).toNat = sl.toNat := by simp [q01]
          have e2 : (q01 true).toNat = 1 := by simp [q01]
          by_cases h2 : t.2 > 1
          · rw [if_pos h2]
            simp only [List.flatMap_cons, e0, Prt.str, flat_rep34]
            obtain ⟨m, hm⟩ : ∃ m, t.2.toNat = m + 1 := ⟨t.2.toNat - 1, by omega⟩
            have e3 : (t.2 - 1).toNat = m := by omega
            rw [e3, hm]
            simp [grpL, e1, e2, List.replicate_succ]
          · rw [if_neg h2]
            have e3 : t.2.toNat = 1 := by omega
            simp only [List.flatMap_cons, e0, Prt.str]
            simp [grpL, e1, e2, e3]
        · rw [if_neg h]
          have hsl : sl = 0 := by omega
          simp only [List.flatMap_cons, e0, Prt.str, flat_rep34, hsl]
          simp
      · rw [if_neg c2]
        by_cases h : 0 < sl
        · rw [if_pos h]
          simp only [List.flatMap_cons, e0, Prt.str]
          simp [grpL, q01]
        · rw [if_neg h]
          have hsl : sl = 0 := by omega
          simp only [List.flatMap_cons, e0, Prt.str, hsl]
          simp
theorem parts_esc {ts : Tx} {k : Nat} (h : TextOk ts) : (parts ts 0 0).flatMap (Prt.str (2 ^ k)) = escS k (expand ts) := by
  have e := parts_str (st := 0) (sl := 0) h.pos (by omega) (fun z => absurd z (by omega)) h.adj
  simp only [Int.toNat_zero, List.replicate_zero, List.nil_append] at e
  rw [← e]
  have ok := parts_ok (st := 0) (sl := 0) h.sym h.pos
  generalize parts ts 0 0 = ps at ok
  induction ps with
  | nil => simp [escS]
  | cons p ps ih =>
    rw [List.flatMap_cons, List.flatMap_cons, escS_app, ih (fun p hp => ok p (by simp [hp])), escS_part (ok p (by simp))]
/-- a group behind runs -/
def addGrp (acc : Tx) (sz : Int) (q : Bool) : Tx := addRun (addRun acc 92 (sz - q01 q)) 34 (q01 q)
def addGrps (acc : Tx) (sz : Int) (q : Bool) : Nat → Tx
  | 0 => acc
  | n + 1 => addGrps (addGrp acc sz q) sz q n
def addPart (u : Int) (acc : Tx) : Prt → Tx
  | .grp _ sz q m => addGrps acc (sz * u) q m.toNat
  | .pln _ c n => addRun acc c n
def escF (u : Int) (ps : List Prt) (acc : Tx) : Tx := ps.foldl (addPart u) acc
def escaped (ts : Tx) (k : Nat) : Tx := escF (2 ^ k) (parts ts 0 0) []
/-- what stays of runs that are put together -/
structure AccOk (acc : Tx) : Prop where
  sym : ∀ t ∈ acc, symC t.1
  pos : ∀ t ∈ acc, 1 ≤ t.2
  adj : Adj acc
theorem AccOk.add {acc : Tx} {c : Nat} {n : Int} (h : AccOk acc) (hc : symC c) : AccOk (addRun acc c n) := ⟨addRun_sym h.sym hc, addRun_pos h.pos, addRun_adj h.adj⟩
theorem AccOk.grp {acc : Tx} {sz : Int} {q : Bool} (h : AccOk acc) : AccOk (addGrp acc sz q) ∧ expand (addGrp acc sz q) = expand acc ++ grpL sz q ∧ (addGrp acc sz q).length ≤ acc.length + 2 := by
  have h1 : AccOk (addRun acc 92 (sz - q01 q)) := h.add (by decide)
  refine ⟨h1.add (by decide), ?_, ?_⟩
  · unfold addGrp
    rw [addRun_expand h1.pos, addRun_expand h.pos]
    simp [grpL]
  · have a := addRun_len (ts := acc) (c := 92) (n := sz - q01 q)
    have b := addRun_len (ts := addRun acc 92 (sz - q01 q)) (c := 34) (n := q01 q)
    unfold addGrp
    omega
theorem AccOk.grps {sz : Int} {q : Bool} : ∀ {m : Nat} {acc : Tx}, AccOk acc → AccOk (addGrps acc sz q m) ∧ expand (addGrps acc sz q m) = expand acc ++ (List.replicate m (grpL sz q)).flatten ∧ (addGrps acc sz q m).length ≤ acc.length + 2 * m
  | 0, acc, h => ⟨h, by simp [addGrps], by simp [addGrps]⟩
  | m + 1, acc, h => by
    obtain ⟨a1, a2, a3⟩ := h.grp (sz := sz) (q := q)
    obtain ⟨b1, b2, b3⟩ := AccOk.grps (sz := sz) (q := q) (m := m) a1
    refine ⟨b1, ?_, ?_⟩
    · show expand (addGrps (addGrp acc sz q) sz q m) = _
      rw [b2, a2, List.replicate_succ]
      simp
    · show (addGrps (addGrp acc sz q) sz q m).length ≤ _
      omega
def Prt.cap : Prt → Nat
  | .grp _ _ _ m => 2 * m.toNat
  | .pln _ _ _ => 1
def capP (ps : List Prt) : Nat := (ps.map Prt.cap).sum
theorem AccOk.part {u : Int} {p : Prt} {acc : Tx} (h : AccOk acc) (hp : p.ok) : AccOk (addPart u acc p) ∧ expand (addPart u acc p) = expand acc ++ p.str u ∧ (addPart u acc p).length ≤ acc.length + p.cap := by
  cases p with
  | grp st sz q m => exact h.grps
  | pln st c n => exact ⟨h.add hp.1, addRun_expand h.pos, addRun_len⟩
theorem AccOk.esc {u : Int} : ∀ {ps : List Prt} {acc : Tx}, AccOk acc → (∀ p ∈ ps, p.ok) → AccOk (escF u ps acc) ∧ expand (escF u ps acc) = expand acc ++ ps.flatMap (Prt.str u) ∧ (escF u ps acc).length ≤ acc.length + capP ps
  | [], acc, h, _ => ⟨h, by simp [escF], by simp [escF, capP]⟩
  | p :: ps, acc, h, ok => by
    obtain ⟨a1, a2, a3⟩ := h.part (u := u) (ok p (by simp))
    obtain ⟨b1, b2, b3⟩ := AccOk.esc (u := u) (ps := ps) a1 fun p hp => ok p (by simp [hp])
    refine ⟨b1, ?_, ?_⟩
    · show expand (escF u ps (addPart u acc p)) = _
      rw [b2, a2]
      simp
    · show (escF u ps (addPart u acc p)).length ≤ _
      simp only [capP, List.map_cons, List.sum_cons] at b3 ⊢
      omega
theorem AccOk.nil : AccOk [] := ⟨by simp, by simp, trivial⟩
/-- how many runs an escaped text has at most -/
def cap (ts : Tx) : Nat := (ts.map fun t => if t.1 = 34 then 2 * t.2.toNat else 1).sum
theorem parts_cap : ∀ {ts : Tx} {st sl : Int}, (∀ t ∈ ts, 1 ≤ t.2) → capP (parts ts st sl) ≤ cap ts * 2 + (if 0 < sl then 2 else 0)
  | [], st, sl, _ => by
    unfold parts
    split <;> simp [capP, Prt.cap, cap]
  | t :: ts, st, sl, h => by
    have n := h t (by simp)
    have ih := fun st sl => parts_cap (ts := ts) (st := st) (sl := sl) fun t ht => h t (by simp [ht])
    have i0 := ih (st + t.2) 0
    have i1 := ih (st + t.2) t.2
    have e : cap (t :: ts) = (if t.1 = 34 then 2 * t.2.toNat else 1) + cap ts := by simp [cap]
    rw [e]
    unfold parts
    rw [if_neg (by omega)] at i0
    rw [if_pos (by omega)] at i1
    by_cases c1 : t.1 = 92
    · rw [if_pos c1, if_neg (by omega)]
      split <;> omega
    · rw [if_neg c1]
      by_cases c2 : t.1 = 34
      · rw [if_pos c2, if_pos c2]
        by_cases h : 0 < sl
        · rw [if_pos h, if_pos h]
          by_cases h2 : t.2 > 1
          · rw [if_pos h2]
            simp only [capP, List.map_cons, List.sum_cons, Prt.cap] at i0 ⊢
            omega
          · rw [if_neg h2]
            simp only [capP, List.map_cons, List.sum_cons, Prt.cap] at i0 ⊢
            omega
        · rw [if_neg h, if_neg h]
          simp only [capP, List.map_cons, List.sum_cons, Prt.cap] at i0 ⊢
          omega
      · rw [if_neg c2, if_neg c2]
        by_cases h : 0 < sl
        · rw [if_pos h, if_pos h]
          simp only [capP, List.map_cons, List.sum_cons, Prt.cap] at i0 ⊢
          omega
        · rw [if_neg h, if_neg h]
          simp only [capP, List.map_cons, List.sum_cons, Prt.cap] at i0 ⊢
          omega
theorem escaped_ok {ts : Tx} {k : Nat} (h : TextOk ts) : AccOk (escaped ts k) ∧ expand (escaped ts k) = escS k (expand ts) ∧ (escaped ts k).length ≤ 2 * cap ts := by
  obtain ⟨a, b, c⟩ := AccOk.nil.esc (u := 2 ^ k) (parts_ok (st := 0) (sl := 0) h.sym h.pos)
  refine ⟨a, ?_, ?_⟩
  · have : expand ([] : Tx) = [] := rfl
    rw [this, List.nil_append, parts_esc h] at b
    exact b
  · have := parts_cap (ts := ts) (st := 0) (sl := 0) h.pos
    simp at this c
    unfold escaped
    omega
theorem escC_len {k c : Nat} : 1 ≤ (escC k c).length ∧ (escC k c).length ≤ 2 ^ k := by
  have := pow_pos2 k
  unfold escC
  split
  · simp; omega
  · split
    · simp; omega
    · simp; omega
theorem escS_len {k : Nat} : ∀ {l : List Nat}, l.length ≤ (escS k l).length ∧ (escS k l).length ≤ l.length * 2 ^ k
  | [] => by simp [escS]
  | c :: l => by
    have ih := escS_len (k := k) (l := l)
    have h := escC_len (k := k) (c := c)
    have e : escS k (c :: l) = escC k c ++ escS k l := by simp [escS]
    rw [e, List.length_append, List.length_cons, Nat.succ_mul]
    omega
theorem escaped_textOk {ts : Tx} {k : Nat} (h : TextOk ts) (hs : smI (size ts * 2 ^ k)) : TextOk (escaped ts k) := by
  obtain ⟨a, b, _⟩ := escaped_ok (k := k) h
  refine ⟨a.sym, a.pos, a.adj, fun t ht => ?_⟩
  have h1 := le_size a.pos ht
  have h2 := a.pos t ht
  have h3 := size_expand a.pos
  have h4 := size_expand h.pos
  have h5 := (escS_len (k := k) (l := expand ts)).2
  rw [b] at h3
  refine hs.le (by omega) (Int.le_trans h1 ?_)
  rw [h3, h4]
  have e1 : ((2 : Int) ^ k) = ((2 ^ k : Nat) : Int) := by norm_cast
  rw [e1]
  exact_mod_cast h5
/-! ### escaping.py: the defs -/
theorem o92 : Str.ofString "\\" = sgn 92 := by decide +kernel
theorem o34 : Str.ofString "\"" = sgn 34 := by decide +kernel
theorem ok92 : (D.str (sgn 92)).eqOk := eqOk_sgn (by decide)
theorem ok34' : (D.str (sgn 34)).eqOk := eqOk_sgn (by decide)
@[simp] theorem eqv_non_str {x : Str} : PyData.eqv D.non.py (D.str x).py = false := by simp [D.py, PyData.eqv]
def c_check_escapesV : Ctr := fun ρ Q _ => ∃ k : Int, ρ = [.dat (.int k)] ∧ 0 ≤ k ∧ k ≤ 200 ∧ Q (.dat .non) [.dat (.int k)]
def c_check_escapesX : Ctr := fun ρ _ Z => ∃ v, ρ = [.dat v] ∧ v.noObj ∧ isIntD v 0 (.int 200) = false ∧ Z ⟨"InvalidNumber", none⟩ [.dat v]
def c_check_escapes : Ctr := orC c_check_escapesV c_check_escapesX
/-- check_escapes, slots ['number']; lends []; gives dat -/
def b_check_escapes : AS := sIf (aNot (vTr (vDef c_is_integer [] (vCons (vVar 0) (vCons (vC (.int 0)) (vCons (vC (.int 200)) (vNil))))))) (sRaise0 "InvalidNumber") (sNx)
theorem p_check_escapesV : Sat 1 1 b_check_escapes c_check_escapesV := by
  intro ρ Q Z hl h
  obtain ⟨k, rfl, h0, h1, hq⟩ := h
  unfold b_check_escapes
  simp [endsA]
  refine ⟨_, _, _, rfl, trivial, .inr ⟨_, rfl⟩, ?_⟩
  simpa [isIntD, h0, h1] using hq
theorem p_check_escapesX : Sat 1 1 b_check_escapes c_check_escapesX := by
  intro ρ Q Z hl h
  obtain ⟨v, rfl, h0, h1, hz⟩ := h
  unfold b_check_escapes
  simp [endsA]
  refine ⟨_, _, _, rfl, h0, .inr ⟨_, rfl⟩, ?_⟩
  simpa [h1] using hz
theorem p_check_escapes : Sat 1 1 b_check_escapes c_check_escapes := sat_or p_check_escapesV p_check_escapesX
def c_power_of_two : Ctr := fun ρ Q _ => ∃ k : Nat, ρ = [.dat (.int k)] ∧ k ≤ 1000 ∧ Q (.dat (.int (2 ^ k))) [.dat (.int k)]
/-- power_of_two, slots ['exponent', 'found', 'turn']; lends []; gives dat -/
def b_power_of_two : AS := sSeq (sAsg (aC (.int 1)) (agName 1))
  (sSeq (sFor (iRange1 (aCons (aVar 0) (aNil))) (agName 2) (sAug 1 bMulS (aC (.int 2))))
  (sRet (aVar 1)))
theorem p_power_of_two : Sat 1 3 b_power_of_two c_power_of_two := by
  intro ρ Q Z hl h
  obtain ⟨k, rfl, h1, hq⟩ := h
  unfold b_power_of_two
  simp [endsA]
  refine ⟨by omega, ?_⟩
  refine loop_ofE (fun ds ρ => ∃ (i : Nat) (v : Sv), ρ = [.dat (.int k), .dat (.int (2 ^ i)), v] ∧ noV v ∧ i + ds.length = k) ?_ ?_ _ _ ⟨0, .un, rfl, trivial, by simp [rangeD]⟩
  · rintro ρ ⟨i, v, rfl, -, e⟩
    simp at e
    subst e
    simpa using hq
  · rintro d ds ρ E ⟨i, v, rfl, hv, e⟩ hX
    simp at e
    have c : CMul (2 ^ i) 2 := .inr (by omega)
    simp [okV_of hv, c]
    exact hX _ ⟨i + 1, .dat d, by rw [Int.pow_succ], trivial, by omega⟩
/-! parts as objects -/
def Prt.isG : Prt → Bool
  | .grp .. => true
  | .pln .. => false
def partD : Prt → D
  | .grp st sz q m => .obj "Part" ["start", "symbol", "size", "quoted", "many"] [.int st, .non, .int sz, .bl q, .int m]
  | .pln st c n => .obj "Part" ["start", "symbol", "size", "quoted", "many"] [.int st, .str (sgn c), .int n, .bl false, .int 1]
section
variable {Q : KD} {QV : D → Prop} {ρ : List Sv} {st sz m n : Int} {q : Bool} {c : Nat} {a1 a2 a3 a4 a5 : D}
theorem partX : isX ["start", "symbol", "size", "quoted", "many"] = false := by decide +kernel
theorem plook : ((["start", "symbol", "size", "quoted", "many"] : List Str).zip [a1, a2, a3, a4, a5]).lookup ("start" : Str) = some a1 ∧ ((["start", "symbol", "size", "quoted", "many"] : List Str).zip [a1, a2, a3, a4, a5]).lookup ("symbol" : Str) = some a2 ∧
    ((["start", "symbol", "size", "quoted", "many"] : List Str).zip [a1, a2, a3, a4, a5]).lookup ("size" : Str) = some a3 ∧ ((["start", "symbol", "size", "quoted", "many"] : List Str).zip [a1, a2, a3, a4, a5]).lookup ("quoted" : Str) = some a4 ∧
    ((["start", "symbol", "size", "quoted", "many"] : List Str).zip [a1, a2, a3, a4, a5]).lookup ("many" : Str) = some a5 := by
  have e : ∀ x : Str, (x == x) = true := fun x => beq_self_eq_true x
  have n1 : (("symbol" : Str) == "start") = false := by decide +kernel
  have n2 : (("size" : Str) == "start") = false := by decide +kernel
  have n3 : (("size" : Str) == "symbol") = false := by decide +kernel
  have n4 : (("quoted" : Str) == "start") = false := by decide +kernel
  have n5 : (("quoted" : Str) == "symbol") = false := by decide +kernel
  have n6 : (("quoted" : Str) == "size") = false := by decide +kernel
  have n7 : (("many" : Str) == "start") = false := by decide +kernel
  have n8 : (("many" : Str) == "symbol") = false := by decide +kernel
  have n9 : (("many" : Str) == "size") = false := by decide +kernel
  have n10 : (("many" : Str) == "quoted") = false := by decide +kernel
  simp only [List.zip_cons_cons, List.lookup_cons, e, n1, n2, n3, n4, n5, n6, n7, n8, n9, n10, and_self]
theorem kfld_of {c f : Str} {ns : List Str} {xs : List D} {x : D} (hx : isX ns = false) (h : (ns.zip xs).lookup f = some x) : kFld Q c f (.obj c ns xs) ρ = Q x ρ := by
  rw [q_kFld]
  exact propext ⟨fun ⟨_, _, y, h1, h2⟩ => by rw [h] at h1; cases h1; exact h2, fun h2 => ⟨rfl, hx, x, h, h2⟩⟩
theorem kvfld_of {c f : Str} {ns : List Str} {xs : List D} {x : D} (hx : isX ns = false) (h : (ns.zip xs).lookup f = some x) : kvFld QV c f (.obj c ns xs) = QV x := by
  rw [q_kvFld]
  exact propext ⟨fun ⟨_, _, y, h1, h2⟩ => by rw [h] at h1; cases h1; exact h2, fun h2 => ⟨rfl, hx, x, h, h2⟩⟩
@[simp] theorem fg_start : kFld Q "Part" "start" (partD (.grp st sz q m)) ρ = Q (.int st) ρ := kfld_of partX plook.1
@[simp] theorem fg_symbol : kFld Q "Part" "symbol" (partD (.grp st sz q m)) ρ = Q .non ρ := kfld_of partX plook.2.1
@[simp] theorem fg_size : kFld Q "Part" "size" (partD (.grp st sz q m)) ρ = Q (.int sz) ρ := kfld_of partX plook.2.2.1
@[simp] theorem fg_quoted : kFld Q "Part" "quoted" (partD (.grp st sz q m)) ρ = Q (.bl q) ρ := kfld_of partX plook.2.2.2.1
@[simp] theorem fg_many : kFld Q "Part" "many" (partD (.grp st sz q m)) ρ = Q (.int m) ρ := kfld_of partX plook.2.2.2.2
@[simp] theorem fp_start : kFld Q "Part" "start" (partD (.pln st c n)) ρ = Q (.int st) ρ := kfld_of partX plook.1
@[simp] theorem fp_symbol : kFld Q "Part" "symbol" (partD (.pln st c n)) ρ = Q (.str (sgn c)) ρ := kfld_of partX plook.2.1
@[simp] theorem fp_size : kFld Q "Part" "size" (partD (.pln st c n)) ρ = Q (.int n) ρ := kfld_of partX plook.2.2.1
@[simp] theorem fp_quoted : kFld Q "Part" "quoted" (partD (.pln st c n)) ρ = Q (.bl false) ρ := kfld_of partX plook.2.2.2.1
@[simp] theorem fp_many : kFld Q "Part" "many" (partD (.pln st c n)) ρ = Q (.int 1) ρ := kfld_of partX plook.2.2.2.2
@[simp] theorem vg_start : kvFld QV "Part" "start" (partD (.grp st sz q m)) = QV (.int st) := kvfld_of partX plook.1
@[simp] theorem vg_size : kvFld QV "Part" "size" (partD (.grp st sz q m)) = QV (.int sz) := kvfld_of partX plook.2.2.1
@[simp] theorem vg_quoted : kvFld QV "Part" "quoted" (partD (.grp st sz q m)) = QV (.bl q) := kvfld_of partX plook.2.2.2.1
@[simp] theorem vg_many : kvFld QV "Part" "many" (partD (.grp st sz q m)) = QV (.int m) := kvfld_of partX plook.2.2.2.2
@[simp] theorem vp_start : kvFld QV "Part" "start" (partD (.pln st c n)) = QV (.int st) := kvfld_of partX plook.1
@[simp] theorem vp_size : kvFld QV "Part" "size" (partD (.pln st c n)) = QV (.int n) := kvfld_of partX plook.2.2.1
theorem meth_isG {Z : KX} {ctr : Ctr} {p : Prt} : kMeth0 Q Z "Part" "is_group" ctr (partD p) ρ = ctr [.dat (partD p)] (kMethR Q ρ) (kMethX Z ρ) := by
  have h : ("is_group" : Str) ∉ (["start", "symbol", "size", "quoted", "many"] : List Str) := by decide +kernel
  cases p <;> simp only [partD, q_kMeth0, h, partX, not_false_eq_true, true_and]
end
def c_Part_is_group : Ctr := fun ρ Q _ => ∃ p, ρ = [.dat (partD p)] ∧ Q (.dat (.bl p.isG)) [.dat (partD p)]
/-- Part_is_group, slots ['self']; lends []; gives dat -/
def b_Part_is_group : AS := sRet (aOp bIsN (aFld "Part" "symbol" (aVar 0)) (aC .non))
theorem p_Part_is_group : Sat 1 1 b_Part_is_group c_Part_is_group := by
  intro ρ Q Z hl h
  obtain ⟨p, rfl, hq⟩ := h
  unfold b_Part_is_group
  cases p with
  | grp st sz q m => simpa [endsA, Prt.isG] using hq
  | pln st c n => simpa [endsA, Prt.isG] using hq
@[simp] theorem isg_of {Q : KD} {Z : KX} {ρ : List Sv} {p : Prt} : kMeth0 Q Z "Part" "is_group" c_Part_is_group (partD p) ρ = Q (.bl p.isG) ρ := by
  rw [meth_isG]
  have inj : ∀ {p q : Prt}, partD p = partD q → p.isG = q.isG := fun {p q} e => by
    cases p <;> cases q <;> first | rfl | (simp [partD] at e)
  refine propext ⟨fun ⟨q, e, h⟩ => ?_, fun h => ⟨p, rfl, h⟩⟩
  have e' : partD p = partD q := by simpa using e
  rw [inj e']
  exact h
def c_parts_of : Ctr := fun ρ Q _ => ∃ ts, ρ = [.dat (.lst (ts.map runD))] ∧ (∀ t ∈ ts, symC t.1) ∧ (∀ t ∈ ts, 1 ≤ t.2) ∧ ts.length ≤ 4000000 ∧ Q (.own false ((parts ts 0 0).map partD)) [.dat (.lst (ts.map runD))]
/-- parts_of, slots ['runs', 'found', 'start', 'slashes', 'symbol', 'count', 'joined']; lends []; gives own -/
def b_parts_of : AS := sSeq (sSetO (oLst (aNil)) 1)
  (sSeq (sAsg (aC (.int 0)) (agName 2))
  (sSeq (sAsg (aC (.int 0)) (agName 3))
  (sSeq (sFor (iAny (aOp bAddB (aVar 0) (aFrz (oLst (aCons (aTup (aCons (aC .non) (aCons (aC (.int 0)) (aNil)))) (aNil)))))) (agTup (agCons (agName 4) (agCons (agName 5) (agNil)))) (sSeq (sIf (tCmpV bEq (vVar 4) (vC (.str "\\"))) (sAsg (aVar 5) (agName 3)) (sIf (tCmpV bEq (vVar 4) (vC (.str "\""))) (sSeq (sAsg (aCall bInt (aCons (aOp bGt (aVar 3) (aC (.int 0))) (aNil))) (agName 6))
  (sSeq (sIf (tCmpV bEq (vVar 6) (vC (.int 1))) (sAppO 1 (aMake "Part" ["start", "symbol", "size", "quoted", "many"] (aCons (aOp bSub (aVar 2) (aVar 3)) (aCons (aC .non) (aCons (aOp bAddB (aVar 3) (aC (.int 1))) (aCons (aC (.bl true)) (aCons (aC (.int 1)) (aNil)))))))) (sNx))
  (sSeq (sIf (tCmpV bGt (vVar 5) (vVar 6)) (sAppO 1 (aMake "Part" ["start", "symbol", "size", "quoted", "many"] (aCons (aOp bAddB (aVar 2) (aVar 6)) (aCons (aC .non) (aCons (aC (.int 1)) (aCons (aC (.bl true)) (aCons (aOp bSub (aVar 5) (aVar 6)) (aNil)))))))) (sNx))
  (sAsg (aC (.int 0)) (agName 3))))) (sSeq (sIf (tCmpV bGt (vVar 3) (vC (.int 0))) (sAppO 1 (aMake "Part" ["start", "symbol", "size", "quoted", "many"] (aCons (aOp bSub (aVar 2) (aVar 3)) (aCons (aC .non) (aCons (aVar 3) (aCons (aC (.bl false)) (aCons (aC (.int 1)) (aNil)))))))) (sNx))
  (sSeq (sIf (tCmpV bNotN (vVar 4) (vC .non)) (sAppO 1 (aMake "Part" ["start", "symbol", "size", "quoted", "many"] (aCons (aVar 2) (aCons (aVar 4) (aCons (aVar 5) (aCons (aC (.bl false)) (aCons (aC (.int 1)) (aNil)))))))) (sNx))
  (sAsg (aC (.int 0)) (agName 3))))))
  (sAug 2 bAddI (aVar 5))))
  (sRetV 1))))
theorem p_parts_of : Sat 1 7 b_parts_of c_parts_of := by
  intro ρ Q Z hl h
  obtain ⟨ts, rfl, hs, hp, hlen, hq⟩ := h
  obtain ⟨pz, hpz⟩ : ∃ pz, parts ts 0 0 = pz := ⟨_, rfl⟩
  rw [hpz] at hq
  unfold b_parts_of
  simp [endsA]
  refine ⟨by omega, ?_⟩
  refine loop_ofE (fun ds ρ => ∃ (acc : List Prt) (st sl : Int) (v4 v5 v6 : Sv), ρ = [.dat (.lst (ts.map runD)), .own false (acc.map partD), .dat (.int st), .dat (.int sl), v4, v5, v6] ∧ noV v4 ∧ noV v5 ∧ noV v6 ∧
      ((∃ us : Tx, ds = us.map runD ++ [.tup [.non, .int 0]] ∧ 0 ≤ sl ∧ acc ++ parts us st sl = pz ∧ (∀ t ∈ us, symC t.1) ∧ (∀ t ∈ us, 1 ≤ t.2) ∧ acc.length + 2 * us.length ≤ 8000000) ∨ (ds = [] ∧ acc = pz))) ?_ ?_ _ _ ⟨[], 0, 0, .un, .un, .un, rfl, trivial, trivial, trivial, .inl ⟨ts, rfl, by omega, hpz, hs, hp, by simp; omega⟩⟩
  · rintro ρ ⟨acc, st, sl, v4, v5, v6, rfl, -, -, -, h⟩
    rcases h with ⟨us, h, _⟩ | ⟨_, rfl⟩
    · simp at h
    · simpa using hq
  · rintro d ds ρ E ⟨acc, st, sl, v4, v5, v6, rfl, n4, n5, n6, h⟩ hX
    rcases h with ⟨us, h, h0, e, hs, hp, hln⟩ | ⟨h, _⟩
    rotate_left
    · cases h
    cases us with
    | nil =>
      simp at h
      obtain ⟨rfl, rfl⟩ := h
      simp [partX, okV_of n4, okV_of n5, ok92, ok34', o92, o34]
      unfold parts at e
      by_cases h2 : 0 < sl
      · simp [h2] at e ⊢
        refine ⟨by simp at hln; omega, ?_⟩
        exact hX _ ⟨pz, st, 0, .dat .non, .dat (.int 0), v6, by rw [← e]; simp [partD], trivial, trivial, n6, .inr ⟨rfl, rfl⟩⟩
      · simp [h2] at e ⊢
        exact hX _ ⟨acc, _, _, _, _, _, rfl, trivial, trivial, n6, .inr ⟨rfl, e⟩⟩
    | cons t us =>
      simp at h
      obtain ⟨rfl, rfl⟩ := h
      have s := hs t (by simp)
      have n := hp t (by simp)
      have hs' : ∀ t ∈ us, symC t.1 := fun t ht => hs t (by simp [ht])
      have hp' : ∀ t ∈ us, 1 ≤ t.2 := fun t ht => hp t (by simp [ht])
      simp at hln
      unfold parts at e
      have hacc : acc.length < 16777216 := by omega
      have hacc2 : acc.length + 1 < 16777216 := by omega
      simp only [runD] at hX ⊢
      by_cases c1 : t.1 = 92
      · rw [if_pos c1] at e
        simp [partX, okV_of n4, okV_of n5, o92, o34, beq_sgn, c1]
        exact hX _ ⟨acc, _, _, _, _, _, rfl, trivial, trivial, n6, .inl ⟨us, rfl, by omega, e, hs', hp', by omega⟩⟩
      · rw [if_neg c1] at e
        by_cases c2 : t.1 = 34
        · rw [if_pos c2] at e
          by_cases h2 : 0 < sl
          · rw [if_pos h2] at e
            by_cases h3 : t.2 > 1
            · rw [if_pos h3] at e
              simp [partX, okV_of n4, okV_of n5, okV_of n6, o92, o34, beq_sgn, c2, h2, show (1 : Int) < t.2 from h3, hacc, hacc2]
              refine hX _ ⟨acc ++ [.grp (st - sl) (sl + 1) true 1, .grp (st + 1) 1 true (t.2 - 1)], st + t.2, 0, .dat (.str (sgn 34)), .dat (.int t.2), .dat (.int 1), by simp [partD], trivial, trivial, trivial, .inl ⟨us, rfl, by omega, by simpa using e, hs', hp', by simp; omega⟩⟩
            · rw [if_neg h3] at e
              simp [partX, okV_of n4, okV_of n5, okV_of n6, o92, o34, beq_sgn, c2, h2, show ¬ (1 : Int) < t.2 from h3, hacc]
              refine hX _ ⟨acc ++ [.grp (st - sl) (sl + 1) true 1], st + t.2, 0, .dat (.str (sgn 34)), .dat (.int t.2), .dat (.int 1), by simp [partD], trivial, trivial, trivial, .inl ⟨us, rfl, by omega, by simpa using e, hs', hp', by simp; omega⟩⟩
          · rw [if_neg h2] at e
            simp [partX, okV_of n4, okV_of n5, okV_of n6, o92, o34, beq_sgn, c2, h2, show (0 : Int) < t.2 by omega, hacc]
            refine hX _ ⟨acc ++ [.grp (st + 0) 1 true (t.2 - 0)], st + t.2, 0, .dat (.str (sgn 34)), .dat (.int t.2), .dat (.int 0), by simp [partD], trivial, trivial, trivial, .inl ⟨us, rfl, by omega, by simpa using e, hs', hp', by simp; omega⟩⟩
        · rw [if_neg c2] at e
          by_cases h2 : 0 < sl
          · rw [if_pos h2] at e
            simp [partX, okV_of n4, okV_of n5, okV_of n6, o92, o34, beq_sgn, c1, c2, h2, hacc, hacc2]
            refine hX _ ⟨acc ++ [.grp (st - sl) sl false 1, .pln st t.1 t.2], st + t.2, 0, .dat (.str (sgn t.1)), .dat (.int t.2), v6, by simp [partD], trivial, trivial, n6, .inl ⟨us, rfl, by omega, by simpa using e, hs', hp', by simp; omega⟩⟩
          · rw [if_neg h2] at e
            simp [partX, okV_of n4, okV_of n5, okV_of n6, o92, o34, beq_sgn, c1, c2, h2, hacc]
            refine hX _ ⟨acc ++ [.pln st t.1 t.2], st + t.2, 0, .dat (.str (sgn t.1)), .dat (.int t.2), v6, by simp [partD], trivial, trivial, n6, .inl ⟨us, rfl, by omega, by simpa using e, hs', hp', by simp; omega⟩⟩
def c_add_group : Ctr := fun ρ Q _ => ∃ acc sz q, ρ = [.own true (acc.map runD), .dat (.int sz), .dat (.bl q)] ∧ (∀ t ∈ acc, symC t.1) ∧ acc.length < 16777210 ∧ Q (.dat .non) [.own true ((addGrp acc sz q).map runD), .dat (.int sz), .dat (.bl q)]
/-- add_group, slots ['runs', 'size', 'quoted']; lends ['runs']; gives dat -/
def b_add_group : AS := sSeq (sDrop (aDef c_add_run [] (rIo 0 (rDat (aC (.str "\\")) (rDat (aOp bSub (aVar 1) (aCall bInt (aCons (aVar 2) (aNil)))) (rNil))))))
  (sDrop (aDef c_add_run [] (rIo 0 (rDat (aC (.str "\"")) (rDat (aCall bInt (aCons (aVar 2) (aNil))) (rNil))))))
theorem p_add_group : Sat 3 3 b_add_group c_add_group := by
  intro ρ Q Z hl h
  obtain ⟨acc, sz, q, rfl, hs, hln, hq⟩ := h
  have h1 := addRun_len (ts := acc) (c := 92) (n := sz - q01 q)
  have e : (if q = true then (1 : Int) else 0) = q01 q := rfl
  unfold b_add_group
  simp [endsA, e]
  refine ⟨acc, 92, sz - q01 q, by simp [o92], hs, by omega, ?_⟩
  simp [e]
  refine ⟨addRun acc 92 (sz - q01 q), 34, q01 q, by simp [o34], addRun_sym hs (by decide), by omega, ?_⟩
  simpa [addGrp] using hq
theorem parts_sz : ∀ {ts : Tx} {st sl : Int}, (∀ t ∈ ts, smI t.2) → (∀ t ∈ ts, 1 ≤ t.2) → 0 ≤ sl → smI sl → ∀ p ∈ parts ts st sl, ∀ a b q m, p = .grp a b q m → 0 ≤ b ∧ b ≤ 2 ^ 1900
  | [], st, sl, _, _, h0, h1, p, hp => by
    have h1' : sl.natAbs < 2 ^ 1900 := h1
    unfold parts at hp
    split at hp
    · rintro a b q m rfl; simp at hp; omega
    · cases hp
  | t :: ts, st, sl, hs, hpo, h0, h1, p, hp => by
    have h1' : sl.natAbs < 2 ^ 1900 := h1
    have hn := hpo t (by simp)
    have ih := fun st sl h0 h1 => parts_sz (ts := ts) (st := st) (sl := sl) (fun t ht => hs t (by simp [ht])) (fun t ht => hpo t (by simp [ht])) h0 h1 p
    have z : smI 0 := smI_lit (by decide)
    have i0 := ih (st + t.2) 0 (by omega) z
    unfold parts at hp
    split at hp
    · exact ih _ _ (by omega) (hs t (by simp)) hp
    · split at hp
      · split at hp
        · rcases List.mem_cons.mp hp with rfl | hp
          · rintro a b q m e; simp at e; omega
          · split at hp
            · rcases List.mem_cons.mp hp with rfl | hp
              · rintro a b q m e; simp at e; omega
              · exact i0 hp
            · exact i0 hp
        · rcases List.mem_cons.mp hp with rfl | hp
          · rintro a b q m e; simp at e; omega
          · exact i0 hp
      · split at hp
        · rcases List.mem_cons.mp hp with rfl | hp
          · rintro a b q m e; simp at e; omega
          · rcases List.mem_cons.mp hp with rfl | hp
            · rintro a b q m e; cases e
            · exact i0 hp
        · rcases List.mem_cons.mp hp with rfl | hp
          · rintro a b q m e; cases e
          · exact i0 hp
def c_escaped : Ctr := fun ρ Q _ => ∃ (ts : Tx) (k : Nat), ρ = [.dat (.lst (ts.map runD)), .dat (.int k)] ∧ TextOk ts ∧ ts.length ≤ 4000000 ∧ cap ts ≤ 1000000 ∧ k ≤ 200 ∧ Q (.own false ((escaped ts k).map runD)) [.dat (.lst (ts.map runD)), .dat (.int k)]
/-- escaped, slots ['runs', 'times', 'unit', 'found', 'part', 'turn']; lends []; gives own -/
def b_escaped : AS := sSeq (sAsg (aDef c_power_of_two [] (rDat (aVar 1) (rNil))) (agName 2))
  (sSeq (sSetO (oLst (aNil)) 3)
  (sSeq (sFor (iAny (aDef c_parts_of [] (rDat (aVar 0) (rNil)))) (agName 4) (sIf (aTr (aMeth0 "Part" "is_group" c_Part_is_group (aVar 4))) (sFor (iRange1 (aCons (aFld "Part" "many" (aVar 4)) (aNil))) (agName 5) (sDrop (aDef c_add_group [] (rIo 3 (rDat (aOp bMulB (aFld "Part" "size" (aVar 4)) (aVar 2)) (rDat (aFld "Part" "quoted" (aVar 4)) (rNil))))))) (sDrop (aDef c_add_run [] (rIo 3 (rDat (aFld "Part" "symbol" (aVar 4)) (rDat (aFld "Part" "size" (aVar 4)) (rNil))))))))
  (sRetV 3)))
theorem p_escaped : Sat 2 6 b_escaped c_escaped := by
  intro ρ Q Z hl h
  obtain ⟨ts, k, rfl, tok, hlen, hcap, hk, hq⟩ := h
  have z : smI 0 := smI_lit (by decide)
  unfold b_escaped
  simp [endsA]
  refine ⟨k, rfl, by omega, ?_⟩
  simp
  refine ⟨ts, rfl, tok.sym, tok.pos, hlen, ?_⟩
  have hc := parts_cap (ts := ts) (st := 0) (sl := 0) tok.pos
  simp
  refine loop_ofE (fun ds ρ => ∃ (acc : Tx) (ps : List Prt) (v4 v5 : Sv), ρ = [.dat (.lst (ts.map runD)), .dat (.int k), .dat (.int (2 ^ k)), .own false (acc.map runD), v4, v5] ∧ noV v4 ∧ noV v5 ∧ ds = ps.map partD ∧ AccOk acc ∧ escF (2 ^ k) ps acc = escaped ts k ∧ (∀ p ∈ ps, p.ok) ∧ (∀ p ∈ ps, ∀ a b q m, p = .grp a b q m → 0 ≤ b ∧ b ≤ 2 ^ 1900) ∧ acc.length + capP ps ≤ 2000000) ?_ ?_ _ _ ⟨[], parts ts 0 0, .un, .un, rfl, trivial, trivial, rfl, AccOk.nil, rfl, parts_ok tok.sym tok.pos, parts_sz tok.sm tok.pos (by omega) z, by simp at hc ⊢; omega⟩
  · rintro ρ ⟨acc, ps, v4, v5, rfl, -, -, hd, ha, e, -⟩
    have : ps = [] := by cases ps with
      | nil => rfl
      | cons _ _ => cases hd
    subst this
    have e' : acc = escaped ts k := e
    subst e'
    simpa using hq
  · rintro d ds ρ E ⟨acc, ps, v4, v5, rfl, n4, n5, hd, ha, e, ok, sz, hln⟩ hX
    obtain ⟨p, ps, rfl, rfl, rfl⟩ : ∃ p ps', ps = p :: ps' ∧ d = partD p ∧ ds = ps'.map partD := by
      cases ps with
      | nil => simp at hd
      | cons t us' => simp at hd; exact ⟨t, us', rfl, hd.1, hd.2⟩
    have ok' : ∀ p ∈ ps, p.ok := fun p hp => ok p (by simp [hp])
    have sz' : ∀ p ∈ ps, ∀ a b q m, p = .grp a b q m → 0 ≤ b ∧ b ≤ 2 ^ 1900 := fun p hp => sz p (by simp [hp])
    have okp := ok p (by simp)
    simp only [capP, List.map_cons, List.sum_cons] at hln
    cases p with
    | pln st c n =>
      have h1 := addRun_len (ts := acc) (c := c) (n := n)
      simp only [Prt.cap] at hln
      simp [okV_of n4, Prt.isG]
      refine ⟨acc, c, n, rfl, ha.sym, by omega, ?_⟩
      simp
      exact hX _ ⟨_, ps, _, _, rfl, trivial, n5, rfl, ha.add okp.1, e, ok', sz', by simp only [capP]; omega⟩
    | grp st b q m =>
      obtain ⟨b0, b1⟩ := sz _ (by simp) st b q m rfl
      have hm := okp.2
      simp only [Prt.cap] at hln
      have cm : CMulA b (2 ^ k) := by
        have e2 : ((2 : Int) ^ k).natAbs < 2 ^ 9000 := by
          have : ((2 : Int) ^ k) = ((2 ^ k : Nat) : Int) := by norm_cast
          rw [this, Int.natAbs_natCast]
          exact Nat.pow_lt_pow_right (by decide) (by omega)
        exact cmulA_x (by omega) e2
      simp [okV_of n4, Prt.isG]
      refine ⟨by omega, by omega, ?_⟩
      refine loop_ofE (fun ds' ρ => ∃ (acc' : Tx) (v5 : Sv), ρ = [.dat (.lst (ts.map runD)), .dat (.int k), .dat (.int (2 ^ k)), .own false (acc'.map runD), .dat (partD (.grp st b q m)), v5] ∧ noV v5 ∧ AccOk acc' ∧ addGrps acc' (b * 2 ^ k) q ds'.length = addGrps acc (b * 2 ^ k) q m.toNat ∧ acc'.length + 2 * ds'.length ≤ acc.length + 2 * m.toNat) ?_ ?_ _ _ ⟨acc, v5, rfl, n5, ha, by simp [rangeD], by simp [rangeD]⟩
      · rintro ρ ⟨acc', v5, rfl, n5, ha', e', hl'⟩
        simp at hl'
        have e3 : acc' = addGrps acc (b * 2 ^ k) q m.toNat := e'
        exact hX _ ⟨acc', ps, _, _, rfl, trivial, n5, rfl, ha', by rw [e3]; exact e, ok', sz', by simp only [capP]; omega⟩
      · rintro d' ds' ρ E' ⟨acc', v5, rfl, n5, ha', e', hl'⟩ hE
        simp at hl'
        obtain ⟨g1, g2, g3⟩ := ha'.grp (sz := b * 2 ^ k) (q := q)
        simp [okV_of n5, cm]
        refine ⟨acc', b * 2 ^ k, q, rfl, ha'.sym, by omega, ?_⟩
        simp
        exact hE _ ⟨_, _, rfl, trivial, g1, e', by omega⟩
def c_escapeV : Ctr := fun ρ Q _ => ∃ (v : D) (ts : Tx) (k : Nat), ρ = [.dat v, .dat (.int k)] ∧ IsTx v ts ∧ ts.length ≤ 8000 ∧ cap ts ≤ 1000000 ∧ k ≤ 200 ∧ Q (.own false ((escaped ts k).map runD)) [.dat v, .dat (.int k)]
/-- the errors of a text and a number of escapes -/
def badTN : Ctr := fun ρ _ Z => ∃ v e, ρ = [.dat v, .dat e] ∧ ((∃ nd, v.sok nd = true ∧ v.wt ≤ 16777216 ∧ isTextD v = false ∧ Z ⟨"InvalidText", none⟩ [.dat v, .dat e]) ∨
  ∃ ts, IsTx v ts ∧ ts.length ≤ 8000 ∧ e.noObj ∧ isIntD e 0 (.int 200) = false ∧ Z ⟨"InvalidNumber", none⟩ [.dat v, .dat e])
def c_escape : Ctr := orC c_escapeV badTN
/-- escape, slots ['text', 'times', 'runs']; lends []; gives own -/
def b_escape : AS := sSeq (sAsg (aDef c_checked_text [] (rDat (aVar 0) (rNil))) (agName 2))
  (sSeq (sDrop (aDef c_check_escapes [] (rDat (aVar 1) (rNil))))
  (sRetO (oDef c_escaped [] (rDat (aVar 2) (rDat (aVar 1) (rNil))))))
theorem p_escapeV : Sat 2 3 b_escape c_escapeV := by
  intro ρ Q Z hl h
  obtain ⟨v, ts, k, rfl, hv, hlen, hcap, hk, hq⟩ := h
  unfold b_escape
  simp [endsA]
  refine .inl ⟨v, ts, rfl, hv, hlen, ?_⟩
  simp
  refine .inl ⟨k, rfl, by omega, by omega, ?_⟩
  simp
  refine ⟨ts, k, rfl, hv.ok, by omega, hcap, hk, ?_⟩
  simpa using hq
theorem p_escapeX : Sat 2 3 b_escape badTN := by
  intro ρ Q Z hl h
  obtain ⟨v, e, rfl, ⟨nd, h1, h2, h3, hz⟩ | ⟨ts, h1, h2, h3, h4, hz⟩⟩ := h
  · unfold b_escape
    simp [endsA]
    refine .inr ⟨v, nd, rfl, h1, h2, h3, ?_⟩
    simpa using hz
  · unfold b_escape
    simp [endsA]
    refine .inl ⟨v, ts, rfl, h1, h2, ?_⟩
    simp
    refine .inr ⟨e, rfl, h3, h4, ?_⟩
    simpa using hz
theorem p_escape : Sat 2 3 b_escape c_escape := sat_or p_escapeV p_escapeX
/-! ### strings of the laws that escape -/
/-! ### groups of a text, and sign by sign -/
structure Gr where
  st : Int
  sz : Int
  q : Bool
  many : Int
def Prt.gr : Prt → Option Gr
  | .grp st sz q m => some ⟨st, sz, q, m⟩
  | .pln _ _ _ => none
def grps (ps : List Prt) : List Gr := ps.filterMap Prt.gr
/-- the numbers of a group are not large -/
def Gr.le (g : Gr) (b : Int) : Prop := 0 ≤ g.st ∧ g.st ≤ b ∧ 0 ≤ g.sz ∧ g.sz ≤ b ∧ 0 ≤ g.many ∧ g.many ≤ b
theorem size_ge0 {ts : Tx} (h : ∀ t ∈ ts, 1 ≤ t.2) : 0 ≤ size ts := by have := size_nonneg h; omega
/-! ### groups.py -/
/-! ### groups of the laws -/
/-! ### group_at -/
/-! ### the kind of an error -/
/-! ### values that are no texts -/
/-! ### the spring of the laws k35 to k53 -/
/-- a spring that b more draws may be taken from -/
def Spr (b : Nat) (r : List D) : Prop := ∃ d s n : Int, r = [.int d, .int s, .int n] ∧ 0 ≤ d ∧ 0 ≤ s ∧ s < 2 ^ 62 ∧ 0 ≤ n ∧ n + b ≤ 2 ^ 62
theorem Spr.mono {b b' : Nat} {r : List D} (h : Spr b r) (l : b' ≤ b) : Spr b' r := by
  obtain ⟨d, s, n, h1, h2, h3, h4, h5, h6⟩ := h
  exact ⟨d, s, n, h1, h2, h3, h4, h5, by omega⟩
theorem cmulA_big {i j : Int} (h1 : i.natAbs < 2 ^ 13000) (h2 : j.natAbs < 2 ^ 1000) : CMulA i j := by
  refine .inr ?_
  have e1 := bits_of (by decide) h1
  have e2 := bits_of (by decide) h2
  unfold CMulX
  omega
def c_l_spring : Ctr := fun ρ Q _ => ∃ ns : List Int, ρ = [.dat (.lst (ns.map .int))] ∧ ns.length ≤ 63 ∧ ∀ r, Spr (2 ^ 60) r → Q (.own false r) [.dat (.lst (ns.map .int))]
/-- l_spring, slots ['l_script', 'l_digits', 'l_seed', 'l_cell']; lends []; gives own -/
def b_l_spring : AS := sSeq (sAsg (aC (.int 0)) (agName 1))
  (sSeq (sAsg (aC (.int 88651)) (agName 2))
  (sSeq (sFor (iAny (aSl (aVar 0) (aNoP) (aPart (aC (.int 63))))) (agName 3) (sSeq (sIf (tCmpV bGe (vCall bAbs (vCons (vVar 3) (vNil))) (vOp bPow (vC (.int 10)) (vC (.int 18)))) (sAsg (aOp bAddB (aOp bMulB (aVar 1) (aOp bPow (aC (.int 10)) (aC (.int 60)))) (aOp bMod (aCall bAbs (aCons (aVar 3) (aNil))) (aOp bPow (aC (.int 10)) (aC (.int 60))))) (agName 1)) (sNx))
  (sAsg (aOp bMod (aOp bAddB (aOp bAddB (aOp bMulB (aVar 2) (aC (.int 69069))) (aOp bMod (aVar 3) (aC (.int 2305843009213693921)))) (aC (.int 7))) (aC (.int 2305843009213693951))) (agName 2))))
  (sRetO (oLst (aCons (aVar 1) (aCons (aVar 2) (aCons (aC (.int 0)) (aNil))))))))
theorem p_l_spring : Sat 1 4 b_l_spring c_l_spring := by
  intro ρ Q Z hl h
  obtain ⟨ns, rfl, hn, hq⟩ := h
  have h5 : ∀ i, CDivW i 2305843009213693951 := fun i => cdivW_of (by omega) (by omega)
  have h6 : ∀ i, CDivW i 2305843009213693921 := fun i => cdivW_of (by omega) (by omega)
  have h7 : ∀ i, CDivW i 1000000000000000000000000000000000000000000000000000000000000 := fun i => cdivW_of (by omega) (Nat.lt_of_lt_of_le (show _ < 2 ^ 200 by decide) (Nat.pow_le_pow_right (by decide) (by decide)))
  have ten : (1000000000000000000000000000000000000000000000000000000000000 : Nat) ≤ 2 ^ 200 := by decide
  unfold b_l_spring
  simp [endsA]
  have ec : cutD (ns.map D.int) none (some 63) = ns.map D.int := by
    unfold cutD
    have e : HT.sIx (ns.map D.int).length 0 none = 0 := rfl
    rw [e, List.drop_zero, Nat.sub_zero]
    have : HT.sIx (ns.map D.int).length (ns.map D.int).length (some 63) = (ns.map D.int).length := by
      unfold HT.sIx
      simp
      omega
    rw [this, List.take_length]
  rw [ec]
  refine loop_of (fun ds ρ => ∃ (d s : Int) (i : Nat) (v3 : Sv) (us : List Int), ρ = [.dat (.lst (ns.map .int)), .dat (.int d), .dat (.int s), v3] ∧ noV v3 ∧ ds = us.map .int ∧ 0 ≤ d ∧ d.natAbs < 2 ^ (200 * i) ∧ i + us.length ≤ 63 ∧ 0 ≤ s ∧ s < 2 ^ 62) ?_ ?_ _ _ ⟨0, 88651, 0, .un, ns, rfl, trivial, rfl, by decide, by decide, by omega, by decide, by decide⟩
  · rintro ρ ⟨d, s, i, v3, us, rfl, -, -, h0, -, -, h1, h2⟩
    simp
    exact hq _ ⟨d, s, 0, rfl, h0, h1, h2, by omega, by omega⟩
  · rintro x ds ρ X ⟨d, s, i, v3, us, rfl, n3, hd, h0, hb, hi, h1, h2⟩ hX
    obtain ⟨x, us, rfl, rfl, rfl⟩ : ∃ y us', us = y :: us' ∧ x = .int y ∧ ds = us'.map .int := by
      cases us with
      | nil => cases hd
      | cons b us' => cases hd; exact ⟨b, us', rfl, rfl, rfl⟩
    simp only [List.length_cons] at hi
    have c1 : CMulA s 69069 := cmul_lit (by omega)
    have c2 : CMulA d 1000000000000000000000000000000000000000000000000000000000000 := cmulA_big (Nat.lt_of_lt_of_le hb (Nat.pow_le_pow_right (by decide) (by omega))) (Nat.lt_of_lt_of_le (show _ < 2 ^ 200 by decide) (Nat.pow_le_pow_right (by decide) (by decide)))
    have fin : ∀ (d' : Int) (i' : Nat), 0 ≤ d' → d'.natAbs < 2 ^ (200 * i') → i' + us.length ≤ 63 → X [.dat (.lst (ns.map .int)), .dat (.int d'), .dat (.int ((s * 69069 + x % 2305843009213693921 + 7) % 2305843009213693951)), .dat (.int x)] := fun d' i' g0 g1 g2 =>
      hX _ ⟨d', _, i', _, us, rfl, trivial, rfl, g0, g1, g2, Int.emod_nonneg _ (by omega), Int.lt_trans (Int.emod_lt_of_pos _ (by omega)) (by omega)⟩
    simp [okV_of n3, h5, h6, h7, c1, c2]
    generalize (if x < 0 then -x else x) = y
    have a0 := Int.emod_nonneg y (show (1000000000000000000000000000000000000000000000000000000000000 : Int) ≠ 0 by decide)
    have a1 := Int.emod_lt_of_pos y (show (0 : Int) < 1000000000000000000000000000000000000000000000000000000000000 by decide)
    generalize y % 1000000000000000000000000000000000000000000000000000000000000 = z at a0 a1
    have m0 := Int.mul_nonneg h0 (show (0 : Int) ≤ 1000000000000000000000000000000000000000000000000000000000000 by decide)
    split
    · refine fin _ (i + 1) (by omega) ?_ (by omega)
      have e : (200 * (i + 1)) = 200 * i + 200 := by omega
      rw [e, Nat.pow_add]
      have h3 : d.natAbs + 1 ≤ 2 ^ (200 * i) := hb
      obtain ⟨T, hT⟩ : ∃ T : Nat, (2 : Nat) ^ 200 = T := ⟨_, rfl⟩
      have t2 := ten
      rw [hT] at t2
      show _ < 2 ^ (200 * i) * (2 : Nat) ^ 200
      rw [hT]
      obtain ⟨P, hP⟩ : ∃ P : Nat, 2 ^ (200 * i) = P := ⟨_, rfl⟩
      rw [hP] at h3 ⊢
      have h4 := Nat.mul_le_mul h3 t2
      clear hT hP e hb ten t2 c1 c2 fin hX
      omega
    · exact fin _ i h0 hb (by omega)
def c_s_draw : Ctr := fun ρ Q _ => ∃ b r m, ρ = [.own true r, .dat (.int m)] ∧ Spr (b + 1) r ∧ CDivW 0 m ∧ ∀ r' k, Spr b r' → 0 ≤ k → k < m → Q (.dat (.int k)) [.own true r', .dat (.int m)]
/-- s_draw, slots ['l_spring_here', 'l_many', 'l_found', 'l_mix']; lends ['l_spring_here']; gives dat -/
def b_s_draw : AS := sSeq (sIf (tCmpV bGt (vOp bIx (vVar 0) (vC (.int 0))) (vC (.int 0))) (sSeq (sAsg (aOp bMod (aOwnIx 0 (aC (.int 0))) (aVar 1)) (agName 2))
  (sSeq (sPutO 0 (aOp bDiv (aOwnIx 0 (aC (.int 0))) (aVar 1)) (aC (.int 0)))
  (sRet (aVar 2)))) (sNx))
  (sSeq (sPutO 0 (aOp bAddB (aOwnIx 0 (aC (.int 2))) (aC (.int 1))) (aC (.int 2)))
  (sSeq (sAsg (aOp bMod (aOp bMulB (aOwnIx 0 (aC (.int 1))) (aOwnIx 0 (aC (.int 1)))) (aC (.int 2305843009213693951))) (agName 3))
  (sSeq (sPutO 0 (aOp bMod (aOp bAddB (aOp bAddB (aVar 3) (aOp bMulB (aOp bMulB (aC (.int 7919)) (aOwnIx 0 (aC (.int 2)))) (aOwnIx 0 (aC (.int 1))))) (aC (.int 104729))) (aC (.int 2305843009213693951))) (aC (.int 1)))
  (sRet (aOp bMod (aOp bDiv (aOwnIx 0 (aC (.int 1))) (aC (.int 65537))) (aVar 1))))))
theorem p_s_draw : Sat 2 4 b_s_draw c_s_draw := by
  intro ρ Q Z hl h
  obtain ⟨b, r, m, rfl, ⟨d, s, n, rfl, hd, hs0, hs, hn0, hn⟩, hm2, hq⟩ := h
  have hm := hm2.1
  have hdiv : ∀ i, CDivW i m := fun i => hm2
  have h5 : ∀ i, CDivW i 2305843009213693951 := fun i => cdivW_of (by omega) (by omega)
  have h6 : ∀ i, CDivW i 65537 := fun i => cdivW_of (by omega) (by omega)
  have c1 : CMulA s s := cmulA_x (Nat.lt_of_le_of_lt (show s.natAbs ≤ 2 ^ 62 by omega) (by decide +kernel)) (Nat.lt_of_le_of_lt (show s.natAbs ≤ 2 ^ 62 by omega) (by decide +kernel))
  have c2 : ∀ i, CMulA 7919 i := fun i => cmulA_l (by omega) (by omega)
  have c3 : CMulA (7919 * (n + 1)) s := cmulA_x (Nat.lt_of_le_of_lt (show (7919 * (n + 1)).natAbs ≤ 2 ^ 80 by omega) (by decide +kernel)) (Nat.lt_of_le_of_lt (show s.natAbs ≤ 2 ^ 62 by omega) (by decide +kernel))
  unfold b_s_draw
  simp [endsA, ixN]
  by_cases h0 : 0 < d
  · simp [h0, hdiv, ixN]
    refine ⟨hm, ?_⟩
    exact hq _ (d % m) ⟨d / m, s, n, rfl, Int.ediv_nonneg hd (by omega), hs0, hs, hn0, by omega⟩ (Int.emod_nonneg _ (by omega)) (Int.emod_lt_of_pos _ hm)
  · simp [h0, hdiv, h5, h6, c1, c2, c3, ixN]
    refine ⟨hm, hq _ _ ⟨d, _, n + 1, rfl, hd, Int.emod_nonneg _ (by omega), Int.lt_trans (Int.emod_lt_of_pos _ (by omega)) (by omega), by omega, by omega⟩ (Int.emod_nonneg _ (by omega)) (Int.emod_lt_of_pos _ hm)⟩
/-! ### histories.py: blocks -/
@[simp ↓] theorem q_bInST {neg : Bool} {s : Str} {ys : List D} {Q : D → Prop} : bIn neg (.str s) (.tup ys) Q = (D.flat (.str s) = true ∧ ys.all D.flat = true ∧ Q (.bl (if neg then !(ys.any fun y => D.eqF y (.str s)) else ys.any fun y => D.eqF y (.str s)))) := keep rfl
def wid (c k : Nat) : Int := if c = 92 ∨ c = 34 then 2 ^ k else 1
/-! pieces -/
abbrev Pc := List (Nat × Int × Int)
def pieD (p : Nat × Int × Int) : D := .tup [.str (sgn p.1), .int p.2.1, .int p.2.2]
theorem eqOk_ssi {a : Nat} {i : Int} (h : symC a) : (D.tup [.str (sgn a), .int i]).eqOk := by
  have h1 := eqOk_sgn h
  refine ⟨?_, ?_⟩
  · have := h1.1
    simp only [D.pl, D.plL, Bool.and_true, Bool.and_eq_true] at this ⊢
  · have := h1.2
    simp only [SeqAt.shaped, D.py, D.pyL, PyData.canLay0, PyData.canLayAll0, PyData.depth, PyData.depthAll, Bool.and_eq_true, decide_eq_true_eq, Bool.and_true] at this ⊢
    exact ⟨this.1, by decide⟩
theorem eqv_ssi {a b : Nat} {i j : Int} : PyData.eqv (D.tup [.str (sgn a), .int i]).py (D.tup [.str (sgn b), .int j]).py = (a == b && i == j) := by
  simp only [D.py, D.pyL, PyData.eqv, PyData.eqvAll, Bool.and_true]
  rw [beq_sgn]
theorem eqOk_pies {ps : Pc} (h : ∀ p ∈ ps, symC p.1) : (D.lst (ps.map pieD)).eqOk := by
  have h1 : D.plL true (ps.map pieD) = true := by
    clear h
    induction ps with
    | nil => simp [D.plL]
    | cons t ts ih => simp [D.plL, D.pl, pieD, ih]
  have h2 : PyData.canLayAll0 (D.pyL (ps.map pieD)) = true := by
    induction ps with
    | nil => simp [D.pyL, PyData.canLayAll0]
    | cons t ts ih =>
      have ht := (h t (by simp)).2.1
      have e : PyData.strOk (sgn t.1) = true := by simp [PyData.strOk, sgn]; omega
      have hp : D.plL true (ts.map pieD) = true := by simp only [List.map_cons, D.plL, Bool.and_eq_true] at h1; exact h1.2
      simp [D.pyL, D.py, pieD, PyData.canLayAll0, PyData.canLay0, e]
      exact ih (fun t ht => h t (by simp [ht])) hp
  have h4 : D.depL (ps.map pieD) ≤ 1 := by
    rw [depL_le]
    intro d hd
    obtain ⟨t, ht, rfl⟩ := List.mem_map.mp hd
    simp [pieD, D.dep, D.depL]
  have h3 : (D.lst (ps.map pieD)).py.depth ≤ 2 := Nat.le_trans depth_py (by rw [D.dep]; omega)
  refine ⟨by simp only [D.pl]; exact h1, ?_⟩
  simp only [SeqAt.shaped, Bool.and_eq_true, decide_eq_true_eq]
  exact ⟨by simp only [D.py, PyData.canLay0]; exact h2, by omega⟩
theorem cut2 {a b c : D} : cutD [a, b, c] none (some 2) = [a, b] := by simp [cutD, HT.sIx]
abbrev Bx := List (Nat × Nat × Int)
def blkD (b : Nat × Nat × Int) : D := pieD (b.1, (b.2.1 : Int), b.2.2)
theorem blks_pies {bs : Bx} : bs.map blkD = (bs.map fun b => (b.1, (b.2.1 : Int), b.2.2)).map pieD := by simp [blkD]
structure BlksOk (bs : Bx) : Prop where
  sym : ∀ b ∈ bs, symC b.1
  lev : ∀ b ∈ bs, b.2.1 ≤ 200
  pos : ∀ b ∈ bs, 1 ≤ b.2.2
  sm : ∀ b ∈ bs, smI b.2.2
theorem BlksOk.tail {b : Nat × Nat × Int} {bs : Bx} (h : BlksOk (b :: bs)) : BlksOk bs := ⟨fun x hx => h.sym x (by simp [hx]), fun x hx => h.lev x (by simp [hx]), fun x hx => h.pos x (by simp [hx]), fun x hx => h.sm x (by simp [hx])⟩
/-! text_by -/
/-! blocks of any values -/
def nextB (a b : Nat × Nat × Int) : Prop := ¬ a.2.1 < b.2.1 ∧ ¬ (a.1 = b.1 ∧ a.2.1 = b.2.1)
def Chn : Bx → Prop
  | a :: b :: r => nextB a b ∧ Chn (b :: r)
  | _ => True
structure HistOk (bs : Bx) : Prop extends BlksOk bs where
  chn : Chn bs
structure IsHx (v : D) (bs : Bx) : Prop where
  norm : v.norm = (D.lst (bs.map blkD)).norm
  ok : HistOk bs
theorem IsHx.items {v : D} {bs : Bx} (h : IsHx v bs) : ∃ xs, v.items = some xs ∧ xs.map D.norm = bs.map fun b => (blkD b).norm := by
  have e := h.norm
  have : (D.lst (bs.map blkD)).norm = .lst ((bs.map blkD).map D.norm) := by simp only [D.norm, normL_map]
  rw [this] at e
  obtain ⟨xs, h1, h2⟩ := norm_lst e
  exact ⟨xs, h1, by rw [h2]; simp⟩
theorem sok_blk {nd : Bool} {b : Nat × Nat × Int} (h : symC b.1) (h2 : b.2.1 ≤ 200) (h3 : smI b.2.2) : (blkD b).sok nd = true := by
  simp only [blkD, pieD, D.sok, D.sokL, sgn, Bool.and_eq_true, Bool.and_true, decide_eq_true_eq]
  refine ⟨?_, ?_, Nat.lt_trans (log2_lt (by decide) h3) (by omega)⟩
  · have := h.2.1
    simp
    omega
  · exact Nat.lt_trans (log2_lt (n := 9) (by decide) (by omega)) (by decide)
theorem BlksOk.sok {nd : Bool} {bs : Bx} (h : BlksOk bs) : (D.lst (bs.map blkD)).sok nd = true := by
  rw [D.sok, sokL_iff]
  intro d hd
  obtain ⟨b, hb, rfl⟩ := List.mem_map.mp hd
  exact sok_blk (h.sym b hb) (h.lev b hb) (h.sm b hb)
theorem wt_blk {b : Nat × Nat × Int} : (blkD b).wt = 3865 := by
  have e : (sgn b.1).length = 1 := rfl
  simp [blkD, pieD, D.wt, D.wtL, e]
theorem blks_wt {bs : Bx} : (D.lst (bs.map blkD)).wt ≤ 3867 * bs.length + 3 := by
  have := wtL_le (k := 3865) (xs := bs.map blkD) (fun d hd => by
    obtain ⟨b, hb, rfl⟩ := List.mem_map.mp hd
    rw [wt_blk]; exact Nat.le_refl _)
  rw [D.wt]
  simp at this
  omega
theorem blks_dep {bs : Bx} : (D.lst (bs.map blkD)).dep ≤ 2 := by
  have : D.depL (bs.map blkD) ≤ 1 := by
    rw [depL_le]
    intro d hd
    obtain ⟨t, ht, rfl⟩ := List.mem_map.mp hd
    simp [blkD, pieD, D.dep, D.depL]
  rw [D.dep]
  omega
theorem IsHx.sok {nd : Bool} {v : D} {bs : Bx} (h : IsHx v bs) : v.sok nd = true := norm_sok h.norm h.ok.toBlksOk.sok
theorem IsHx.wt {v : D} {bs : Bx} (h : IsHx v bs) : v.wt ≤ 3867 * bs.length + 3 := by rw [norm_wt h.norm]; exact blks_wt
theorem IsHx.dep {v : D} {bs : Bx} (h : IsHx v bs) : v.dep ≤ 2 := by rw [norm_dep h.norm]; exact blks_dep
/-! text_of -/
/-! (fgr and fgr2, for the chain of the facts) -/
/-! ### blocks and their length -/
/-- what any list of blocks keeps -/
structure BInv (bs : Bx) : Prop where
  sym : ∀ b ∈ bs, symC b.1
  lev : ∀ b ∈ bs, b.2.1 ≤ 200
  pos : ∀ b ∈ bs, 1 ≤ b.2.2
def lenB (bs : Bx) : Int := (bs.map fun b => b.2.2 * wid b.1 b.2.1).sum
theorem lenB_app {xs ys : Bx} : lenB (xs ++ ys) = lenB xs + lenB ys := by simp [lenB]
theorem BInv.nil : BInv [] := ⟨by simp, by simp, by simp⟩
theorem BInv.app {xs ys : Bx} (h : BInv xs) (h' : BInv ys) : BInv (xs ++ ys) := by
  have all : ∀ {p : Nat × Nat × Int → Prop}, (∀ x ∈ xs, p x) → (∀ x ∈ ys, p x) → ∀ x ∈ xs ++ ys, p x := fun h1 h2 x hx => by
    rcases List.mem_append.mp hx with hx | hx
    · exact h1 x hx
    · exact h2 x hx
  exact ⟨all h.sym h'.sym, all h.lev h'.lev, all h.pos h'.pos⟩
theorem BInv.left {xs ys : Bx} (h : BInv (xs ++ ys)) : BInv xs := ⟨fun b hb => h.sym b (by simp [hb]), fun b hb => h.lev b (by simp [hb]), fun b hb => h.pos b (by simp [hb])⟩
theorem BInv.one {c k : Nat} {n : Int} (h1 : symC c) (h2 : k ≤ 200) (h3 : 1 ≤ n) : BInv [(c, k, n)] := ⟨by simpa using h1, by simpa using h2, by simpa using h3⟩
theorem eqOk_blksI {bs : Bx} (h : BInv bs) : (D.lst (bs.map blkD)).eqOk := by
  rw [blks_pies]
  exact eqOk_pies fun p hp => by
    obtain ⟨x, hx, rfl⟩ := List.mem_map.mp hp
    exact h.sym x hx
/-- characters added to blocks -/
def addB (bs : Bx) (c k : Nat) (n : Int) : Bx := if 0 < n then (match bs.getLast? with
    | some u => if u.1 = c ∧ u.2.1 = k then bs.dropLast ++ [(c, k, u.2.2 + n)] else bs ++ [(c, k, n)]
    | none => bs ++ [(c, k, n)]) else bs
theorem addB_zero {bs : Bx} {c k : Nat} {n : Int} (h : ¬ 0 < n) : addB bs c k n = bs := if_neg h
theorem addB_cases {bs : Bx} {c k : Nat} {n : Int} (h : 0 < n) : (addB bs c k n = bs ++ [(c, k, n)] ∧ ∀ u, bs.getLast? = some u → ¬ (u.1 = c ∧ u.2.1 = k)) ∨ ∃ us m, bs = us ++ [(c, k, m)] ∧ addB bs c k n = us ++ [(c, k, m + n)] := by
  unfold addB
  rw [if_pos h]
  rcases List.eq_nil_or_concat bs with rfl | ⟨us, u, hu⟩
  · exact .inl ⟨rfl, fun u hu => by cases hu⟩
  · rw [List.concat_eq_append] at hu
    subst hu
    simp only [List.getLast?_append, List.getLast?_singleton, Option.some_or, List.dropLast_concat]
    split
    · rename_i hh
      obtain ⟨h1, h2⟩ := hh
      obtain ⟨c', k', m⟩ := u
      simp only at h1 h2
      subst h1 h2
      exact .inr ⟨us, m, rfl, rfl⟩
    · rename_i hh
      exact .inl ⟨rfl, fun u' hu' => by cases hu'; exact hh⟩
theorem addB_inv {bs : Bx} {c k : Nat} {n : Int} (h : BInv bs) (hc : symC c) (hk : k ≤ 200) : BInv (addB bs c k n) ∧ (addB bs c k n).length ≤ bs.length + 1 ∧ (0 ≤ n → lenB (addB bs c k n) = lenB bs + n * wid c k) := by
  by_cases hn : 0 < n
  · rcases addB_cases (bs := bs) (c := c) (k := k) hn with ⟨e, -⟩ | ⟨us, m, rfl, e⟩
    · rw [e]
      exact ⟨h.app (.one hc hk (by omega)), by simp, fun _ => by rw [lenB_app]; simp [lenB]⟩
    · rw [e]
      have hm := h.pos (c, k, m) (by simp)
      simp only at hm
      exact ⟨h.left.app (.one hc hk (by omega)), by simp, fun _ => by rw [lenB_app, lenB_app]; simp [lenB, Int.add_mul]; omega⟩
  · rw [addB_zero hn]
    exact ⟨h, by omega, fun h0 => by have : n = 0 := by omega
                                     subst this; simp⟩
def c_add_block : Ctr := fun ρ Q _ => ∃ (bs : Bx) (c k : Nat) (n : Int), ρ = [.own true (bs.map blkD), .dat (.str (sgn c)), .dat (.int k), .dat (.int n)] ∧ BInv bs ∧ symC c ∧ k ≤ 200 ∧ bs.length < 16777216 ∧
  Q (.dat .non) [.own true ((addB bs c k n).map blkD), .dat (.str (sgn c)), .dat (.int k), .dat (.int n)]
/-- add_block, slots ['blocks', 'symbol', 'level', 'count']; lends ['blocks']; gives dat -/
def b_add_block : AS := sIf (aAnd (tCmpV bGt (vVar 3) (vC (.int 0))) (aAnd (tCmpV bNe (vVar 0) (vLst (vNil))) (tCmpE bEq (aSl (aOwnIx 0 (aUn bNeg (aC (.int 1)))) (aNoP) (aPart (aC (.int 2)))) (aTup (aCons (aVar 1) (aCons (aVar 2) (aNil))))))) (sPutO 0 (aTup (aCons (aVar 1) (aCons (aVar 2) (aCons (aOp bAddB (aOp bIx (aOwnIx 0 (aUn bNeg (aC (.int 1)))) (aC (.int 2))) (aVar 3)) (aNil))))) (aUn bNeg (aC (.int 1)))) (sIf (tCmpV bGt (vVar 3) (vC (.int 0))) (sAppO 0 (aTup (aCons (aVar 1) (aCons (aVar 2) (aCons (aVar 3) (aNil)))))) (sNx))
theorem p_add_block : Sat 4 4 b_add_block c_add_block := by
  intro ρ Q Z hl h
  obtain ⟨bs, c, k, n, rfl, hi, hc, hk, hlen, hq⟩ := h
  unfold b_add_block
  have ok := eqOk_blksI hi
  by_cases hn : 0 < n
  · rcases List.eq_nil_or_concat bs with rfl | ⟨us, u, hu⟩
    · have e : addB [] c k n = [(c, k, n)] := by simp [addB, hn]
      rw [e] at hq
      simp [endsA, hn]
      simpa [blkD, pieD] using hq
    · rw [List.concat_eq_append] at hu
      have e1 : bs.map blkD = us.map blkD ++ [.tup [.str (sgn u.1), .int u.2.1, .int u.2.2]] := by simp [hu, blkD, pieD]
      have hne : bs ≠ [] := by simp [hu]
      have hsu := hi.sym u (by simp [hu])
      have hul : us.length + 1 < 16777216 := by simp [hu] at hlen; omega
      rw [e1] at ok ⊢
      simp [endsA, hn, ok, atI_last]
      refine ⟨by decide, ?_⟩
      rw [cut2, eqv_ssi]
      refine ⟨.inl ⟨eqOk_ssi hsu, eqOk_ssi hc⟩, ?_⟩
      by_cases hh : u.1 = c ∧ u.2.1 = k
      · have e : addB bs c k n = us ++ [(c, k, u.2.2 + n)] := by simp [addB, hn, hu, hh]
        rw [e] at hq
        rw [if_pos (by simp [hh])]
        refine ⟨us.length, by rw [ixN_last], ?_⟩
        have := set_last (us := us.map blkD) (u := .tup [.str (sgn u.1), .int u.2.1, .int u.2.2]) (v := .tup [.str (sgn c), .int k, .int (u.2.2 + n)])
        rw [List.length_map] at this
        rw [this]
        simpa [blkD, pieD] using hq
      · have e : addB bs c k n = bs ++ [(c, k, n)] := by simp [addB, hn, hu, hh]
        rw [e, List.map_append, e1] at hq
        rw [if_neg (by simp; intro h h'; exact hh ⟨h, by omega⟩)]
        exact ⟨hul, by simpa [blkD, pieD] using hq⟩
  · rw [addB_zero hn] at hq
    simpa [endsA, hn] using hq
/-! ### the class of an error: its own name, or "odd" (k49 to k53) -/
def all14 : List Str := ["InvalidText", "InvalidNumber", "InvalidHistory", "InvalidScript", "InvalidCommand", "InvalidFacts", "InvalidPosition", "InvalidSymbols", "NoMove", "NothingToUndo", "NotEscaped", "TooLong", "Contradiction", "ParseError"]
def named8 : List Str := ["InvalidText", "InvalidNumber", "InvalidFacts", "InvalidHistory", "InvalidPosition", "Contradiction", "TooLong", "NothingToUndo"]
def clsN (n : Str) : Str := if named8.contains n then n else "odd"
def c_l_class : Ctr := fun ρ Q _ => ∃ x, ρ = [.dat (excD x)] ∧ x.c ∈ all14 ∧ Q (.dat (.str (clsN x.c))) [.dat (excD x)]
theorem cls52_InvalidText : cl_InvalidText.lookup (Str.ofString "InvalidText") = some true ∧ cl_InvalidNumber.lookup (Str.ofString "InvalidText") = some false ∧ cl_InvalidFacts.lookup (Str.ofString "InvalidText") = some false ∧ cl_InvalidHistory.lookup (Str.ofString "InvalidText") = some false ∧ cl_InvalidPosition.lookup (Str.ofString "InvalidText") = some false ∧ cl_Contradiction.lookup (Str.ofString "InvalidText") = some false ∧ cl_TooLong.lookup (Str.ofString "InvalidText") = some false ∧ cl_NothingToUndo.lookup (Str.ofString "InvalidText") = some false ∧ isAny [cl_InvalidCommand, cl_InvalidScript, cl_InvalidSymbols, cl_NoMove, cl_NotEscaped, cl_ParseError] (Str.ofString "InvalidText") = some false ∧ cl_SlashError.lookup (Str.ofString "InvalidText") = some true ∧ cl_ValueError.lookup (Str.ofString "InvalidText") = some true ∧ clsN (Str.ofString "InvalidText") = Str.ofString "InvalidText" := by decide +kernel
theorem cls52_InvalidNumber : cl_InvalidText.lookup (Str.ofString "InvalidNumber") = some false ∧ cl_InvalidNumber.lookup (Str.ofString "InvalidNumber") = some true ∧ cl_InvalidFacts.lookup (Str.ofString "InvalidNumber") = some false ∧ cl_InvalidHistory.lookup (Str.ofString "InvalidNumber") = some false ∧ cl_InvalidPosition.lookup (Str.ofString "InvalidNumber") = some false ∧ cl_Contradiction.lookup (Str.ofString "InvalidNumber") = some false ∧ cl_TooLong.lookup (Str.ofString "InvalidNumber") = some false ∧ cl_NothingToUndo.lookup (Str.ofString "InvalidNumber") = some false ∧ isAny [cl_InvalidCommand, cl_InvalidScript, cl_InvalidSymbols, cl_NoMove, cl_NotEscaped, cl_ParseError] (Str.ofString "InvalidNumber") = some false ∧ cl_SlashError.lookup (Str.ofString "InvalidNumber") = some true ∧ cl_ValueError.lookup (Str.ofString "InvalidNumber") = some true ∧ clsN (Str.ofString "InvalidNumber") = Str.ofString "InvalidNumber" := by decide +kernel
theorem cls52_InvalidHistory : cl_InvalidText.lookup (Str.ofString "InvalidHistory") = some false ∧ cl_InvalidNumber.lookup (Str.ofString "InvalidHistory") = some false ∧ cl_InvalidFacts.lookup (Str.ofString "InvalidHistory") = some false ∧ cl_InvalidHistory.lookup (Str.ofString "InvalidHistory") = some true ∧ cl_InvalidPosition.lookup (Str.ofString "InvalidHistory") = some false ∧ cl_Contradiction.lookup (Str.ofString "InvalidHistory") = some false ∧ cl_TooLong.lookup (Str.ofString "InvalidHistory") = some false ∧ cl_NothingToUndo.lookup (Str.ofString "InvalidHistory") = some false ∧ isAny [cl_InvalidCommand, cl_InvalidScript, cl_InvalidSymbols, cl_NoMove, cl_NotEscaped, cl_ParseError] (Str.ofString "InvalidHistory") = some false ∧ cl_SlashError.lookup (Str.ofString "InvalidHistory") = some true ∧ cl_ValueError.lookup (Str.ofString "InvalidHistory") = some true ∧ clsN (Str.ofString "InvalidHistory") = Str.ofString "InvalidHistory" := by decide +kernel
theorem cls52_InvalidScript : cl_InvalidText.lookup (Str.ofString "InvalidScript") = some false ∧ cl_InvalidNumber.lookup (Str.ofString "InvalidScript") = some false ∧ cl_InvalidFacts.lookup (Str.ofString "InvalidScript") = some false ∧ cl_InvalidHistory.lookup (Str.ofString "InvalidScript") = some false ∧ cl_InvalidPosition.lookup (Str.ofString "InvalidScript") = some false ∧ cl_Contradiction.lookup (Str.ofString "InvalidScript") = some false ∧ cl_TooLong.lookup (Str.ofString "InvalidScript") = some false ∧ cl_NothingToUndo.lookup (Str.ofString "InvalidScript") = some false ∧ isAny [cl_InvalidCommand, cl_InvalidScript, cl_InvalidSymbols, cl_NoMove, cl_NotEscaped, cl_ParseError] (Str.ofString "InvalidScript") = some true ∧ cl_SlashError.lookup (Str.ofString "InvalidScript") = some true ∧ cl_ValueError.lookup (Str.ofString "InvalidScript") = some true ∧ clsN (Str.ofString "InvalidScript") = Str.ofString "odd" := by decide +kernel
theorem cls52_InvalidCommand : cl_InvalidText.lookup (Str.ofString "InvalidCommand") = some false ∧ cl_InvalidNumber.lookup (Str.ofString "InvalidCommand") = some false ∧ cl_InvalidFacts.lookup (Str.ofString "InvalidCommand") = some false ∧ cl_InvalidHistory.lookup (Str.ofString "InvalidCommand") = some false ∧ cl_InvalidPosition.lookup (Str.ofString "InvalidCommand") = some false ∧ cl_Contradiction.lookup (Str.ofString "InvalidCommand") = some false ∧ cl_TooLong.lookup (Str.ofString "InvalidCommand") = some false ∧ cl_NothingToUndo.lookup (Str.ofString "InvalidCommand") = some false ∧ isAny [cl_InvalidCommand, cl_InvalidScript, cl_InvalidSymbols, cl_NoMove, cl_NotEscaped, cl_ParseError] (Str.ofString "InvalidCommand") = some true ∧ cl_SlashError.lookup (Str.ofString "InvalidCommand") = some true ∧ cl_ValueError.lookup (Str.ofString "InvalidCommand") = some true ∧ clsN (Str.ofString "InvalidCommand") = Str.ofString "odd" := by decide +kernel
theorem cls52_InvalidFacts : cl_InvalidText.lookup (Str.ofString "InvalidFacts") = some false ∧ cl_InvalidNumber.lookup (Str.ofString "InvalidFacts") = some false ∧ cl_InvalidFacts.lookup (Str.ofString "InvalidFacts") = some true ∧ cl_InvalidHistory.lookup (Str.ofString "InvalidFacts") = some false ∧ cl_InvalidPosition.lookup (Str.ofString "InvalidFacts") = some false ∧ cl_Contradiction.lookup (Str.ofString "InvalidFacts") = some false ∧ cl_TooLong.lookup (Str.ofString "InvalidFacts") = some false ∧ cl_NothingToUndo.lookup (Str.ofString "InvalidFacts") = some false ∧ isAny [cl_InvalidCommand, cl_InvalidScript, cl_InvalidSymbols, cl_NoMove, cl_NotEscaped, cl_ParseError] (Str.ofString "InvalidFacts") = some false ∧ cl_SlashError.lookup (Str.ofString "InvalidFacts") = some true ∧ cl_ValueError.lookup (Str.ofString "InvalidFacts") = some true ∧ clsN (Str.ofString "InvalidFacts") = Str.ofString "InvalidFacts" := by decide +kernel
theorem cls52_InvalidPosition : cl_InvalidText.lookup (Str.ofString "InvalidPosition") = some false ∧ cl_InvalidNumber.lookup (Str.ofString "InvalidPosition") = some false ∧ cl_InvalidFacts.lookup (Str.ofString "InvalidPosition") = some false ∧ cl_InvalidHistory.lookup (Str.ofString "InvalidPosition") = some false ∧ cl_InvalidPosition.lookup (Str.ofString "InvalidPosition") = some true ∧ cl_Contradiction.lookup (Str.ofString "InvalidPosition") = some false ∧ cl_TooLong.lookup (Str.ofString "InvalidPosition") = some false ∧ cl_NothingToUndo.lookup (Str.ofString "InvalidPosition") = some false ∧ isAny [cl_InvalidCommand, cl_InvalidScript, cl_InvalidSymbols, cl_NoMove, cl_NotEscaped, cl_ParseError] (Str.ofString "InvalidPosition") = some false ∧ cl_SlashError.lookup (Str.ofString "InvalidPosition") = some true ∧ cl_ValueError.lookup (Str.ofString "InvalidPosition") = some true ∧ clsN (Str.ofString "InvalidPosition") = Str.ofString "InvalidPosition" := by decide +kernel
theorem cls52_InvalidSymbols : cl_InvalidText.lookup (Str.ofString "InvalidSymbols") = some false ∧ cl_InvalidNumber.lookup (Str.ofString "InvalidSymbols") = some false ∧ cl_InvalidFacts.lookup (Str.ofString "InvalidSymbols") = some false ∧ cl_InvalidHistory.lookup (Str.ofString "InvalidSymbols") = some false ∧ cl_InvalidPosition.lookup (Str.ofString "InvalidSymbols") = some false ∧ cl_Contradiction.lookup (Str.ofString "InvalidSymbols") = some false ∧ cl_TooLong.lookup (Str.ofString "InvalidSymbols") = some false ∧ cl_NothingToUndo.lookup (Str.ofString "InvalidSymbols") = some false ∧ isAny [cl_InvalidCommand, cl_InvalidScript, cl_InvalidSymbols, cl_NoMove, cl_NotEscaped, cl_ParseError] (Str.ofString "InvalidSymbols") = some true ∧ cl_SlashError.lookup (Str.ofString "InvalidSymbols") = some true ∧ cl_ValueError.lookup (Str.ofString "InvalidSymbols") = some true ∧ clsN (Str.ofString "InvalidSymbols") = Str.ofString "odd" := by decide +kernel
theorem cls52_NoMove : cl_InvalidText.lookup (Str.ofString "NoMove") = some false ∧ cl_InvalidNumber.lookup (Str.ofString "NoMove") = some false ∧ cl_InvalidFacts.lookup (Str.ofString "NoMove") = some false ∧ cl_InvalidHistory.lookup (Str.ofString "NoMove") = some false ∧ cl_InvalidPosition.lookup (Str.ofString "NoMove") = some false ∧ cl_Contradiction.lookup (Str.ofString "NoMove") = some false ∧ cl_TooLong.lookup (Str.ofString "NoMove") = some false ∧ cl_NothingToUndo.lookup (Str.ofString "NoMove") = some false ∧ isAny [cl_InvalidCommand, cl_InvalidScript, cl_InvalidSymbols, cl_NoMove, cl_NotEscaped, cl_ParseError] (Str.ofString "NoMove") = some true ∧ cl_SlashError.lookup (Str.ofString "NoMove") = some true ∧ cl_ValueError.lookup (Str.ofString "NoMove") = some true ∧ clsN (Str.ofString "NoMove") = Str.ofString "odd" := by decide +kernel
theorem cls52_NothingToUndo : cl_InvalidText.lookup (Str.ofString "NothingToUndo") = some false ∧ cl_InvalidNumber.lookup (Str.ofString "NothingToUndo") = some false ∧ cl_InvalidFacts.lookup (Str.ofString "NothingToUndo") = some false ∧ cl_InvalidHistory.lookup (Str.ofString "NothingToUndo") = some false ∧ cl_InvalidPosition.lookup (Str.ofString "NothingToUndo") = some false ∧ cl_Contradiction.lookup (Str.ofString "NothingToUndo") = some false ∧ cl_TooLong.lookup (Str.ofString "NothingToUndo") = some false ∧ cl_NothingToUndo.lookup (Str.ofString "NothingToUndo") = some true ∧ isAny [cl_InvalidCommand, cl_InvalidScript, cl_InvalidSymbols, cl_NoMove, cl_NotEscaped, cl_ParseError] (Str.ofString "NothingToUndo") = some false ∧ cl_SlashError.lookup (Str.ofString "NothingToUndo") = some true ∧ cl_ValueError.lookup (Str.ofString "NothingToUndo") = some true ∧ clsN (Str.ofString "NothingToUndo") = Str.ofString "NothingToUndo" := by decide +kernel
theorem cls52_NotEscaped : cl_InvalidText.lookup (Str.ofString "NotEscaped") = some false ∧ cl_InvalidNumber.lookup (Str.ofString "NotEscaped") = some false ∧ cl_InvalidFacts.lookup (Str.ofString "NotEscaped") = some false ∧ cl_InvalidHistory.lookup (Str.ofString "NotEscaped") = some false ∧ cl_InvalidPosition.lookup (Str.ofString "NotEscaped") = some false ∧ cl_Contradiction.lookup (Str.ofString "NotEscaped") = some false ∧ cl_TooLong.lookup (Str.ofString "NotEscaped") = some false ∧ cl_NothingToUndo.lookup (Str.ofString "NotEscaped") = some false ∧ isAny [cl_InvalidCommand, cl_InvalidScript, cl_InvalidSymbols, cl_NoMove, cl_NotEscaped, cl_ParseError] (Str.ofString "NotEscaped") = some true ∧ cl_SlashError.lookup (Str.ofString "NotEscaped") = some true ∧ cl_ValueError.lookup (Str.ofString "NotEscaped") = some true ∧ clsN (Str.ofString "NotEscaped") = Str.ofString "odd" := by decide +kernel
theorem cls52_TooLong : cl_InvalidText.lookup (Str.ofString "TooLong") = some false ∧ cl_InvalidNumber.lookup (Str.ofString "TooLong") = some false ∧ cl_InvalidFacts.lookup (Str.ofString "TooLong") = some false ∧ cl_InvalidHistory.lookup (Str.ofString "TooLong") = some false ∧ cl_InvalidPosition.lookup (Str.ofString "TooLong") = some false ∧ cl_Contradiction.lookup (Str.ofString "TooLong") = some false ∧ cl_TooLong.lookup (Str.ofString "TooLong") = some true ∧ cl_NothingToUndo.lookup (Str.ofString "TooLong") = some false ∧ isAny [cl_InvalidCommand, cl_InvalidScript, cl_InvalidSymbols, cl_NoMove, cl_NotEscaped, cl_ParseError] (Str.ofString "TooLong") = some false ∧ cl_SlashError.lookup (Str.ofString "TooLong") = some true ∧ cl_ValueError.lookup (Str.ofString "TooLong") = some true ∧ clsN (Str.ofString "TooLong") = Str.ofString "TooLong" := by decide +kernel
theorem cls52_Contradiction : cl_InvalidText.lookup (Str.ofString "Contradiction") = some false ∧ cl_InvalidNumber.lookup (Str.ofString "Contradiction") = some false ∧ cl_InvalidFacts.lookup (Str.ofString "Contradiction") = some false ∧ cl_InvalidHistory.lookup (Str.ofString "Contradiction") = some false ∧ cl_InvalidPosition.lookup (Str.ofString "Contradiction") = some false ∧ cl_Contradiction.lookup (Str.ofString "Contradiction") = some true ∧ cl_TooLong.lookup (Str.ofString "Contradiction") = some false ∧ cl_NothingToUndo.lookup (Str.ofString "Contradiction") = some false ∧ isAny [cl_InvalidCommand, cl_InvalidScript, cl_InvalidSymbols, cl_NoMove, cl_NotEscaped, cl_ParseError] (Str.ofString "Contradiction") = some false ∧ cl_SlashError.lookup (Str.ofString "Contradiction") = some true ∧ cl_ValueError.lookup (Str.ofString "Contradiction") = some true ∧ clsN (Str.ofString "Contradiction") = Str.ofString "Contradiction" := by decide +kernel
theorem cls52_ParseError : cl_InvalidText.lookup (Str.ofString "ParseError") = some false ∧ cl_InvalidNumber.lookup (Str.ofString "ParseError") = some false ∧ cl_InvalidFacts.lookup (Str.ofString "ParseError") = some false ∧ cl_InvalidHistory.lookup (Str.ofString "ParseError") = some false ∧ cl_InvalidPosition.lookup (Str.ofString "ParseError") = some false ∧ cl_Contradiction.lookup (Str.ofString "ParseError") = some false ∧ cl_TooLong.lookup (Str.ofString "ParseError") = some false ∧ cl_NothingToUndo.lookup (Str.ofString "ParseError") = some false ∧ isAny [cl_InvalidCommand, cl_InvalidScript, cl_InvalidSymbols, cl_NoMove, cl_NotEscaped, cl_ParseError] (Str.ofString "ParseError") = some true ∧ cl_SlashError.lookup (Str.ofString "ParseError") = some true ∧ cl_ValueError.lookup (Str.ofString "ParseError") = some true ∧ clsN (Str.ofString "ParseError") = Str.ofString "odd" := by decide +kernel
/-- l_class, slots ['l_caught', 'l_found', 'l_is_base']; lends []; gives dat -/
def b_l_class : AS := sSeq (sSetO (oLst (aNil)) 1)
  (sSeq (sIf (vTr (vIsE cl_InvalidText (vVar 0))) (sAppO 1 (aC (.str "InvalidText"))) (sNx))
  (sSeq (sIf (vTr (vIsE cl_InvalidNumber (vVar 0))) (sAppO 1 (aC (.str "InvalidNumber"))) (sNx))
  (sSeq (sIf (vTr (vIsE cl_InvalidFacts (vVar 0))) (sAppO 1 (aC (.str "InvalidFacts"))) (sNx))
  (sSeq (sIf (vTr (vIsE cl_InvalidHistory (vVar 0))) (sAppO 1 (aC (.str "InvalidHistory"))) (sNx))
  (sSeq (sIf (vTr (vIsE cl_InvalidPosition (vVar 0))) (sAppO 1 (aC (.str "InvalidPosition"))) (sNx))
  (sSeq (sIf (vTr (vIsE cl_Contradiction (vVar 0))) (sAppO 1 (aC (.str "Contradiction"))) (sNx))
  (sSeq (sIf (vTr (vIsE cl_TooLong (vVar 0))) (sAppO 1 (aC (.str "TooLong"))) (sNx))
  (sSeq (sIf (vTr (vIsE cl_NothingToUndo (vVar 0))) (sAppO 1 (aC (.str "NothingToUndo"))) (sNx))
  (sSeq (sIf (vTr (vIsEs [cl_InvalidCommand, cl_InvalidScript, cl_InvalidSymbols, cl_NoMove, cl_NotEscaped, cl_ParseError] (vVar 0))) (sAppO 1 (aC (.str "odd"))) (sNx))
  (sSeq (sAsg (aAndV (aFlat (vIsE cl_SlashError (vVar 0))) (aFlat (vIsE cl_ValueError (vVar 0)))) (agName 2))
  (sRet (aIfE (aAnd (vTr (vVar 2)) (tCmpV bEq (vCall bLen (vCons (vVar 1) (vNil))) (vC (.int 1)))) (aOwnIx 1 (aC (.int 0))) (aC (.str "odd"))))))))))))))
theorem p_l_class : Sat 1 3 b_l_class c_l_class := by
  intro ρ Q Z hl h
  obtain ⟨⟨c, fld⟩, rfl, hx, hq⟩ := h
  simp only [all14, List.mem_cons, List.not_mem_nil, or_false] at hx
  unfold b_l_class
  rcases hx with rfl | rfl | rfl | rfl | rfl | rfl | rfl | rfl | rfl | rfl | rfl | rfl | rfl | rfl
  · obtain ⟨e1, e2, e3, e4, e5, e6, e7, e8, e9, e10, e11, e12⟩ := cls52_InvalidText
    rw [e12] at hq
    simp [endsA, q_kIsE (x := ⟨Str.ofString "InvalidText", fld⟩) e1, q_kIsE (x := ⟨Str.ofString "InvalidText", fld⟩) e2, q_kIsE (x := ⟨Str.ofString "InvalidText", fld⟩) e3, q_kIsE (x := ⟨Str.ofString "InvalidText", fld⟩) e4, q_kIsE (x := ⟨Str.ofString "InvalidText", fld⟩) e5, q_kIsE (x := ⟨Str.ofString "InvalidText", fld⟩) e6, q_kIsE (x := ⟨Str.ofString "InvalidText", fld⟩) e7, q_kIsE (x := ⟨Str.ofString "InvalidText", fld⟩) e8, q_kIsE (x := ⟨Str.ofString "InvalidText", fld⟩) e10, q_kIsE (x := ⟨Str.ofString "InvalidText", fld⟩) e11, q_kIsEs (x := ⟨Str.ofString "InvalidText", fld⟩) e9]
    simpa using hq
  · obtain ⟨e1, e2, e3, e4, e5, e6, e7, e8, e9, e10, e11, e12⟩ := cls52_InvalidNumber
    rw [e12] at hq
    simp [endsA, q_kIsE (x := ⟨Str.ofString "InvalidNumber", fld⟩) e1, q_kIsE (x := ⟨Str.ofString "InvalidNumber", fld⟩) e2, q_kIsE (x := ⟨Str.ofString "InvalidNumber", fld⟩) e3, q_kIsE (x := ⟨Str.ofString "InvalidNumber", fld⟩) e4, q_kIsE (x := ⟨Str.ofString "InvalidNumber", fld⟩) e5, q_kIsE (x := ⟨Str.ofString "InvalidNumber", fld⟩) e6, q_kIsE (x := ⟨Str.ofString "InvalidNumber", fld⟩) e7, q_kIsE (x := ⟨Str.ofString "InvalidNumber", fld⟩) e8, q_kIsE (x := ⟨Str.ofString "InvalidNumber", fld⟩) e10, q_kIsE (x := ⟨Str.ofString "InvalidNumber", fld⟩) e11, q_kIsEs (x := ⟨Str.ofString "InvalidNumber", fld⟩) e9]
    simpa using hq
  · obtain ⟨e1, e2, e3, e4, e5, e6, e7, e8, e9, e10, e11, e12⟩ := cls52_InvalidHistory
    rw [e12] at hq
    simp [endsA, q_kIsE (x := ⟨Str.ofString "InvalidHistory", fld⟩) e1, q_kIsE (x := ⟨Str.ofString "InvalidHistory", fld⟩) e2, q_kIsE (x := ⟨Str.ofString "InvalidHistory", fld⟩) e3, q_kIsE (x := ⟨Str.ofString "InvalidHistory", fld⟩) e4, q_kIsE (x := ⟨Str.ofString "InvalidHistory", fld⟩) e5, q_kIsE (x := ⟨Str.ofString "InvalidHistory", fld⟩) e6, q_kIsE (x := ⟨Str.ofString "InvalidHistory", fld⟩) e7, q_kIsE (x := ⟨Str.ofString "InvalidHistory", fld⟩) e8, q_kIsE (x := ⟨Str.ofString "InvalidHistory", fld⟩) e10, q_kIsE (x := ⟨Str.ofString "InvalidHistory", fld⟩) e11, q_kIsEs (x := ⟨Str.ofString "InvalidHistory", fld⟩) e9]
    simpa using hq
  · obtain ⟨e1, e2, e3, e4, e5, e6, e7, e8, e9, e10, e11, e12⟩ := cls52_InvalidScript
    rw [e12] at hq
    simp [endsA, q_kIsE (x := ⟨Str.ofString "InvalidScript", fld⟩) e1, q_kIsE (x := ⟨Str.ofString "InvalidScript", fld⟩) e2, q_kIsE (x := ⟨Str.ofString "InvalidScript", fld⟩) e3, q_kIsE (x := ⟨Str.ofString "InvalidScript", fld⟩) e4, q_kIsE (x := ⟨Str.ofString "InvalidScript", fld⟩) e5, q_kIsE (x := ⟨Str.ofString "InvalidScript", fld⟩) e6, q_kIsE (x := ⟨Str.ofString "InvalidScript", fld⟩) e7, q_kIsE (x := ⟨Str.ofString "InvalidScript", fld⟩) e8, q_kIsE (x := ⟨Str.ofString "InvalidScript", fld⟩) e10, q_kIsE (x := ⟨Str.ofString "InvalidScript", fld⟩) e11, q_kIsEs (x := ⟨Str.ofString "InvalidScript", fld⟩) e9]
    simpa using hq
  · obtain ⟨e1, e2, e3, e4, e5, e6, e7, e8, e9, e10, e11, e12⟩ := cls52_InvalidCommand
    rw [e12] at hq
    simp [endsA, q_kIsE (x := ⟨Str.ofString "InvalidCommand", fld⟩) e1, q_kIsE (x := ⟨Str.ofString "InvalidCommand", fld⟩) e2, q_kIsE (x := ⟨Str.ofString "InvalidCommand", fld⟩) e3, q_kIsE (x := ⟨Str.ofString "InvalidCommand", fld⟩) e4, q_kIsE (x := ⟨Str.ofString "InvalidCommand", fld⟩) e5, q_kIsE (x := ⟨Str.ofString "InvalidCommand", fld⟩) e6, q_kIsE (x := ⟨Str.ofString "InvalidCommand", fld⟩) e7, q_kIsE (x := ⟨Str.ofString "InvalidCommand", fld⟩) e8, q_kIsE (x := ⟨Str.ofString "InvalidCommand", fld⟩) e10, q_kIsE (x := ⟨Str.ofString "InvalidCommand", fld⟩) e11, q_kIsEs (x := ⟨Str.ofString "InvalidCommand", fld⟩) e9]
    simpa using hq
  · obtain ⟨e1, e2, e3, e4, e5, e6, e7, e8, e9, e10, e11, e12⟩ := cls52_InvalidFacts
    rw [e12] at hq
    simp [endsA, q_kIsE (x := ⟨Str.ofString "InvalidFacts", fld⟩) e1, q_kIsE (x := ⟨Str.ofString "InvalidFacts", fld⟩) e2, q_kIsE (x := ⟨Str.ofString "InvalidFacts", fld⟩) e3, q_kIsE (x := ⟨Str.ofString "InvalidFacts", fld⟩) e4, q_kIsE (x := ⟨Str.ofString "InvalidFacts", fld⟩) e5, q_kIsE (x := ⟨Str.ofString "InvalidFacts", fld⟩) e6, q_kIsE (x := ⟨Str.ofString "InvalidFacts", fld⟩) e7, q_kIsE (x := ⟨Str.ofString "InvalidFacts", fld⟩) e8, q_kIsE (x := ⟨Str.ofString "InvalidFacts", fld⟩) e10, q_kIsE (x := ⟨Str.ofString "InvalidFacts", fld⟩) e11, q_kIsEs (x := ⟨Str.ofString "InvalidFacts", fld⟩) e9]
    simpa using hq
  · obtain ⟨e1, e2, e3, e4, e5, e6, e7, e8, e9, e10, e11, e12⟩ := cls52_InvalidPosition
    rw [e12] at hq
    simp [endsA, q_kIsE (x := ⟨Str.ofString "InvalidPosition", fld⟩) e1, q_kIsE (x := ⟨Str.ofString "InvalidPosition", fld⟩) e2, q_kIsE (x := ⟨Str.ofString "InvalidPosition", fld⟩) e3, q_kIsE (x := ⟨Str.ofString "InvalidPosition", fld⟩) e4, q_kIsE (x := ⟨Str.ofString "InvalidPosition", fld⟩) e5, q_kIsE (x := ⟨Str.ofString "InvalidPosition", fld⟩) e6, q_kIsE (x := ⟨Str.ofString "InvalidPosition", fld⟩) e7, q_kIsE (x := ⟨Str.ofString "InvalidPosition", fld⟩) e8, q_kIsE (x := ⟨Str.ofString "InvalidPosition", fld⟩) e10, q_kIsE (x := ⟨Str.ofString "InvalidPosition", fld⟩) e11, q_kIsEs (x := ⟨Str.ofString "InvalidPosition", fld⟩) e9]
    simpa using hq
  · obtain ⟨e1, e2, e3, e4, e5, e6, e7, e8, e9, e10, e11, e12⟩ := cls52_InvalidSymbols
    rw [e12] at hq
    simp [endsA, q_kIsE (x := ⟨Str.ofString "InvalidSymbols", fld⟩) e1, q_kIsE (x := ⟨Str.ofString "InvalidSymbols", fld⟩) e2, q_kIsE (x := ⟨Str.ofString "InvalidSymbols", fld⟩) e3, q_kIsE (x := ⟨Str.ofString "InvalidSymbols", fld⟩) e4, q_kIsE (x := ⟨Str.ofString "InvalidSymbols", fld⟩) e5, q_kIsE (x := ⟨Str.ofString "InvalidSymbols", fld⟩) e6, q_kIsE (x := ⟨Str.ofString "InvalidSymbols", fld⟩) e7, q_kIsE (x := ⟨Str.ofString "InvalidSymbols", fld⟩) e8, q_kIsE (x := ⟨Str.ofString "InvalidSymbols", fld⟩) e10, q_kIsE (x := ⟨Str.ofString "InvalidSymbols", fld⟩) e11, q_kIsEs (x := ⟨Str.ofString "InvalidSymbols", fld⟩) e9]
    simpa using hq
  · obtain ⟨e1, e2, e3, e4, e5, e6, e7, e8, e9, e10, e11, e12⟩ := cls52_NoMove
    rw [e12] at hq
    simp [endsA, q_kIsE (x := ⟨Str.ofString "NoMove", fld⟩) e1, q_kIsE (x := ⟨Str.ofString "NoMove", fld⟩) e2, q_kIsE (x := ⟨Str.ofString "NoMove", fld⟩) e3, q_kIsE (x := ⟨Str.ofString "NoMove", fld⟩) e4, q_kIsE (x := ⟨Str.ofString "NoMove", fld⟩) e5, q_kIsE (x := ⟨Str.ofString "NoMove", fld⟩) e6, q_kIsE (x := ⟨Str.ofString "NoMove", fld⟩) e7, q_kIsE (x := ⟨Str.ofString "NoMove", fld⟩) e8, q_kIsE (x := ⟨Str.ofString "NoMove", fld⟩) e10, q_kIsE (x := ⟨Str.ofString "NoMove", fld⟩) e11, q_kIsEs (x := ⟨Str.ofString "NoMove", fld⟩) e9]
    simpa using hq
  · obtain ⟨e1, e2, e3, e4, e5, e6, e7, e8, e9, e10, e11, e12⟩ := cls52_NothingToUndo
    rw [e12] at hq
    simp [endsA, q_kIsE (x := ⟨Str.ofString "NothingToUndo", fld⟩) e1, q_kIsE (x := ⟨Str.ofString "NothingToUndo", fld⟩) e2, q_kIsE (x := ⟨Str.ofString "NothingToUndo", fld⟩) e3, q_kIsE (x := ⟨Str.ofString "NothingToUndo", fld⟩) e4, q_kIsE (x := ⟨Str.ofString "NothingToUndo", fld⟩) e5, q_kIsE (x := ⟨Str.ofString "NothingToUndo", fld⟩) e6, q_kIsE (x := ⟨Str.ofString "NothingToUndo", fld⟩) e7, q_kIsE (x := ⟨Str.ofString "NothingToUndo", fld⟩) e8, q_kIsE (x := ⟨Str.ofString "NothingToUndo", fld⟩) e10, q_kIsE (x := ⟨Str.ofString "NothingToUndo", fld⟩) e11, q_kIsEs (x := ⟨Str.ofString "NothingToUndo", fld⟩) e9]
    simpa using hq
  · obtain ⟨e1, e2, e3, e4, e5, e6, e7, e8, e9, e10, e11, e12⟩ := cls52_NotEscaped
    rw [e12] at hq
    simp [endsA, q_kIsE (x := ⟨Str.ofString "NotEscaped", fld⟩) e1, q_kIsE (x := ⟨Str.ofString "NotEscaped", fld⟩) e2, q_kIsE (x := ⟨Str.ofString "NotEscaped", fld⟩) e3, q_kIsE (x := ⟨Str.ofString "NotEscaped", fld⟩) e4, q_kIsE (x := ⟨Str.ofString "NotEscaped", fld⟩) e5, q_kIsE (x := ⟨Str.ofString "NotEscaped", fld⟩) e6, q_kIsE (x := ⟨Str.ofString "NotEscaped", fld⟩) e7, q_kIsE (x := ⟨Str.ofString "NotEscaped", fld⟩) e8, q_kIsE (x := ⟨Str.ofString "NotEscaped", fld⟩) e10, q_kIsE (x := ⟨Str.ofString "NotEscaped", fld⟩) e11, q_kIsEs (x := ⟨Str.ofString "NotEscaped", fld⟩) e9]
    simpa using hq
  · obtain ⟨e1, e2, e3, e4, e5, e6, e7, e8, e9, e10, e11, e12⟩ := cls52_TooLong
    rw [e12] at hq
    simp [endsA, q_kIsE (x := ⟨Str.ofString "TooLong", fld⟩) e1, q_kIsE (x := ⟨Str.ofString "TooLong", fld⟩) e2, q_kIsE (x := ⟨Str.ofString "TooLong", fld⟩) e3, q_kIsE (x := ⟨Str.ofString "TooLong", fld⟩) e4, q_kIsE (x := ⟨Str.ofString "TooLong", fld⟩) e5, q_kIsE (x := ⟨Str.ofString "TooLong", fld⟩) e6, q_kIsE (x := ⟨Str.ofString "TooLong", fld⟩) e7, q_kIsE (x := ⟨Str.ofString "TooLong", fld⟩) e8, q_kIsE (x := ⟨Str.ofString "TooLong", fld⟩) e10, q_kIsE (x := ⟨Str.ofString "TooLong", fld⟩) e11, q_kIsEs (x := ⟨Str.ofString "TooLong", fld⟩) e9]
    simpa using hq
  · obtain ⟨e1, e2, e3, e4, e5, e6, e7, e8, e9, e10, e11, e12⟩ := cls52_Contradiction
    rw [e12] at hq
    simp [endsA, q_kIsE (x := ⟨Str.ofString "Contradiction", fld⟩) e1, q_kIsE (x := ⟨Str.ofString "Contradiction", fld⟩) e2, q_kIsE (x := ⟨Str.ofString "Contradiction", fld⟩) e3, q_kIsE (x := ⟨Str.ofString "Contradiction", fld⟩) e4, q_kIsE (x := ⟨Str.ofString "Contradiction", fld⟩) e5, q_kIsE (x := ⟨Str.ofString "Contradiction", fld⟩) e6, q_kIsE (x := ⟨Str.ofString "Contradiction", fld⟩) e7, q_kIsE (x := ⟨Str.ofString "Contradiction", fld⟩) e8, q_kIsE (x := ⟨Str.ofString "Contradiction", fld⟩) e10, q_kIsE (x := ⟨Str.ofString "Contradiction", fld⟩) e11, q_kIsEs (x := ⟨Str.ofString "Contradiction", fld⟩) e9]
    simpa using hq
  · obtain ⟨e1, e2, e3, e4, e5, e6, e7, e8, e9, e10, e11, e12⟩ := cls52_ParseError
    rw [e12] at hq
    simp [endsA, q_kIsE (x := ⟨Str.ofString "ParseError", fld⟩) e1, q_kIsE (x := ⟨Str.ofString "ParseError", fld⟩) e2, q_kIsE (x := ⟨Str.ofString "ParseError", fld⟩) e3, q_kIsE (x := ⟨Str.ofString "ParseError", fld⟩) e4, q_kIsE (x := ⟨Str.ofString "ParseError", fld⟩) e5, q_kIsE (x := ⟨Str.ofString "ParseError", fld⟩) e6, q_kIsE (x := ⟨Str.ofString "ParseError", fld⟩) e7, q_kIsE (x := ⟨Str.ofString "ParseError", fld⟩) e8, q_kIsE (x := ⟨Str.ofString "ParseError", fld⟩) e10, q_kIsE (x := ⟨Str.ofString "ParseError", fld⟩) e11, q_kIsEs (x := ⟨Str.ofString "ParseError", fld⟩) e9]
    simpa using hq
def clsF (d : D) : D := match d with
  | .obj c _ _ => .str (clsN c)
  | _ => d
theorem clsF_of {x : Exc} : clsF (excD x) = .str (clsN x.c) := by
  unfold excD
  split <;> rfl
def exsA : List Exc := [⟨"InvalidText", none⟩, ⟨"InvalidNumber", none⟩, ⟨"InvalidFacts", none⟩, ⟨"InvalidHistory", none⟩, ⟨"InvalidPosition", none⟩, ⟨"Contradiction", some ("indices", .tup [.int 0, .int 1])⟩, ⟨"TooLong", some ("length", .int 7)⟩, ⟨"NothingToUndo", none⟩]
def exsB : List Exc := [⟨"InvalidCommand", none⟩, ⟨"InvalidScript", none⟩, ⟨"InvalidSymbols", none⟩, ⟨"NoMove", none⟩, ⟨"NotEscaped", some ("position", .int 3)⟩, ⟨"ParseError", some ("index", .non)⟩]
theorem exs_in : (∀ x ∈ exsA, x.c ∈ all14) ∧ ∀ x ∈ exsB, x.c ∈ all14 := by decide +kernel
theorem all14_slash : ∀ n ∈ all14, cl_SlashError.lookup n = some true := by decide +kernel
theorem clsM {ex : List Exc} : (ex.map excD).map clsF = (ex.map fun x => clsN x.c).map .str := by
  rw [List.map_map, List.map_map]
  exact List.map_congr_left fun x _ => clsF_of
def namL : List D := named8.map .str
def oddL : List D := List.replicate 6 (.str "odd")
theorem clsA : (exsA.map excD).map clsF = namL := by
  rw [clsM, show (exsA.map fun x => clsN x.c) = named8 by decide +kernel]
  rfl
theorem clsB : (exsB.map excD).map clsF = oddL := by
  rw [clsM, show (exsB.map fun x => clsN x.c) = List.replicate 6 (Str.ofString "odd") by decide +kernel]
  rfl
def c_l_classes_right : Ctr := fun ρ Q _ => ρ = [] ∧ Q (.dat (.bl true)) []
/-- l_classes_right, slots ['l_made', 'l_names', 'l_odd', 'l_one', 'l_fields']; lends []; gives dat -/
def b_l_classes_right : AS := sSeq (sAsg (aFrz (oLst (aCons (aExc0 "InvalidText") (aCons (aExc0 "InvalidNumber") (aCons (aExc0 "InvalidFacts") (aCons (aExc0 "InvalidHistory") (aCons (aExc0 "InvalidPosition") (aNil)))))))) (agName 0))
  (sSeq (sAsg (aFrz (oLst (aCons (aC (.str "InvalidText")) (aCons (aC (.str "InvalidNumber")) (aCons (aC (.str "InvalidFacts")) (aCons (aC (.str "InvalidHistory")) (aCons (aC (.str "InvalidPosition")) (aCons (aC (.str "Contradiction")) (aNil))))))))) (agName 1))
  (sSeq (sAsg (aOp bAddB (aVar 0) (aFrz (oLst (aCons (aExc1 "Contradiction" "indices" (aTup (aCons (aC (.int 0)) (aCons (aC (.int 1)) (aNil))))) (aCons (aExc1 "TooLong" "length" (aC (.int 7))) (aCons (aExc0 "NothingToUndo") (aNil))))))) (agName 0))
  (sSeq (sAsg (aFrz (oLst (aCons (aExc0 "InvalidCommand") (aCons (aExc0 "InvalidScript") (aCons (aExc0 "InvalidSymbols") (aCons (aExc0 "NoMove") (aCons (aExc1 "NotEscaped" "position" (aC (.int 3))) (aCons (aExc1 "ParseError" "index" (aC .non)) (aNil))))))))) (agName 2))
  (sSeq (sIf (tCmpE bNe (aFrz (oLc (iAny (aVar 0)) (agName 3) (aYes) (aDef c_l_class [] (rDat (aVar 3) (rNil))) [3])) (aOp bAddB (aVar 1) (aFrz (oLst (aCons (aC (.str "TooLong")) (aCons (aC (.str "NothingToUndo")) (aNil))))))) (sRet (aC (.bl false))) (sNx))
  (sSeq (sIf (aOr (tCmpE bNe (aFrz (oLc (iAny (aVar 2)) (agName 3) (aYes) (aDef c_l_class [] (rDat (aVar 3) (rNil))) [3])) (aFrz (oRep (oLst (aCons (aC (.str "odd")) (aNil))) (aC (.int 6))))) (tCmpE bNe (aFrz (oLc (iAny (aVar 2)) (agName 3) (aNot (vTr (vIsE cl_SlashError (vVar 3)))) (aVar 3) [3])) (aFrz (oLst (aNil))))) (sRet (aC (.bl false))) (sNx))
  (sSeq (sAsg (aFrz (oLst (aCons (aXfld "Contradiction" "indices" (aExc1 "Contradiction" "indices" (aTup (aCons (aC (.int 0)) (aCons (aC (.int 1)) (aNil)))))) (aCons (aXfld "TooLong" "length" (aExc1 "TooLong" "length" (aC (.int 7)))) (aCons (aXfld "NotEscaped" "position" (aExc1 "NotEscaped" "position" (aC (.int 3)))) (aCons (aXfld "ParseError" "index" (aExc1 "ParseError" "index" (aC .non))) (aNil))))))) (agName 4))
  (sRet (aOp bEq (aVar 4) (aFrz (oLst (aCons (aTup (aCons (aC (.int 0)) (aCons (aC (.int 1)) (aNil)))) (aCons (aC (.int 7)) (aCons (aC (.int 3)) (aCons (aC .non) (aNil)))))))))))))))
theorem p_l_classes_right : Sat 0 5 b_l_classes_right c_l_classes_right := by
  intro ρ Q Z hl h
  obtain ⟨rfl, hq⟩ := h
  have cls : ∀ (ex : List Exc), ex.length ≤ 100 → (∀ x ∈ ex, x.c ∈ all14) → ∀ {Qc : List D → List Sv → Prop} {a b c d : Sv}, Qc ((ex.map excD).map clsF) [a, b, c, .un, d] →
      aComp (agName 3) aYes (aDef c_l_class [] (rDat (aVar 3) rNil)) [3] Qc (ex.map excD) [] [a, b, c, .un, d] := by
    intro ex hl hin Qc a b c d hQ
    refine comp_map clsF (by rw [List.length_map, size16]; omega) ?_ hQ
    intro d hd X hX
    obtain ⟨x, hx, rfl⟩ := List.mem_map.mp hd
    rw [clsF_of] at hX
    simp
    refine ⟨x, rfl, hin x hx, ?_⟩
    simpa using hX
  unfold b_l_classes_right
  refine seq_hide fun u hu => ?_
  simp [endsA]
  subst hu
  refine seq_hide fun u hu => ?_
  simp
  subst hu
  refine seq_hide fun u hu => ?_
  simp
  subst hu
  refine seq_hide fun u hu => ?_
  simp
  have eA : [excD ⟨Str.ofString "InvalidText", none⟩, excD ⟨Str.ofString "InvalidNumber", none⟩, excD ⟨Str.ofString "InvalidFacts", none⟩, excD ⟨Str.ofString "InvalidHistory", none⟩, excD ⟨Str.ofString "InvalidPosition", none⟩, excD ⟨Str.ofString "Contradiction", some (Str.ofString "indices", D.tup [D.int 0, D.int 1])⟩, excD ⟨Str.ofString "TooLong", some (Str.ofString "length", D.int 7)⟩, excD ⟨Str.ofString "NothingToUndo", none⟩] = exsA.map excD := rfl
  have eB : [excD ⟨Str.ofString "InvalidCommand", none⟩, excD ⟨Str.ofString "InvalidScript", none⟩, excD ⟨Str.ofString "InvalidSymbols", none⟩, excD ⟨Str.ofString "NoMove", none⟩, excD ⟨Str.ofString "NotEscaped", some (Str.ofString "position", D.int 3)⟩, excD ⟨Str.ofString "ParseError", some (Str.ofString "index", D.non)⟩] = exsB.map excD := rfl
  rw [eA, eB]
  subst hu
  refine seq_hide fun u hu => ?_
  simp
  have okN : (D.lst namL).eqOk := eqOk_of (by decide +kernel) (by decide +kernel)
  have eqN : PyData.eqv (D.lst namL).py (D.lst namL).py = true := by decide +kernel
  have okO : (D.lst oddL).eqOk := eqOk_of (by decide +kernel) (by decide +kernel)
  have eqO : PyData.eqv (D.lst oddL).py (D.lst oddL).py = true := by decide +kernel
  have okF : (D.lst [.tup [.int 0, .int 1], .int 7, .int 3, .non]).eqOk := eqOk_of (by decide +kernel) (by decide +kernel)
  have eqF : PyData.eqv (D.lst [.tup [.int 0, .int 1], .int 7, .int 3, .non]).py (D.lst [.tup [.int 0, .int 1], .int 7, .int 3, .non]).py = true := by decide +kernel
  refine cls exsA (by decide) exs_in.1 ?_
  rw [clsA]
  simp
  have eN : [D.str (Str.ofString "InvalidText"), D.str (Str.ofString "InvalidNumber"), D.str (Str.ofString "InvalidFacts"), D.str (Str.ofString "InvalidHistory"), D.str (Str.ofString "InvalidPosition"), D.str (Str.ofString "Contradiction"), D.str (Str.ofString "TooLong"), D.str (Str.ofString "NothingToUndo")] = namL := rfl
  rw [eN]
  refine ⟨.inl ⟨okN, okN⟩, ?_⟩
  rw [eqN]
  simp
  subst hu
  simp
  refine cls exsB (by decide) exs_in.2 ?_
  rw [clsB]
  simp
  refine ⟨.inl ⟨okO, okO⟩, ?_⟩
  refine .inl ⟨eqO, ?_⟩
  refine comp_filter (fun _ => false) (fun d => d) (by rw [List.length_map, size16]; decide) ?_ ?_
  · intro d hd X hX
    obtain ⟨x, hx, rfl⟩ := List.mem_map.mp hd
    simp [q_kIsE (all14_slash _ (exs_in.2 x hx))]
    simpa using hX
  · rw [show (exsB.map excD).filter (fun _ => false) = [] from List.filter_eq_nil_iff.mpr fun _ _ => by simp]
    simp
    refine ⟨.inl okF, ?_⟩
    rw [eqF]
    exact hq
/-! ### a builder: texts of backslashes and double quotes, escaped in between -/
def quo (ts : Tx) : Nat := (ts.map fun t => if t.1 = 34 then t.2.toNat else 0).sum
theorem quo_expand : ∀ {ts : Tx}, quo ts = (expand ts).count 34
  | [] => rfl
  | t :: ts => by
    have ih := quo_expand (ts := ts)
    rw [expand_cons, List.count_append, ← ih]
    simp only [quo, List.map_cons, List.sum_cons, List.count_replicate]
    congr 1
    by_cases h : t.1 = 34
    · simp [h]
    · simp [h]
theorem quo_escS {k : Nat} : ∀ {l : List Nat}, (escS k l).count 34 = l.count 34
  | [] => rfl
  | c :: l => by
    have ih := quo_escS (k := k) (l := l)
    have e : escS k (c :: l) = escC k c ++ escS k l := rfl
    rw [e, List.count_append, ih, List.count_cons]
    unfold escC
    split
    · rename_i h; subst h; simp [List.count_replicate]
    · split
      · rename_i h; subst h; simp [List.count_append, List.count_replicate]; omega
      · rename_i h1 h2
        have : (c == 34) = false := by simp [h2]
        simp [this, h2, List.count_cons]
theorem cap_quo {ts : Tx} : cap ts ≤ ts.length + 2 * quo ts := by
  induction ts with
  | nil => simp [cap, quo]
  | cons t ts ih =>
    simp only [cap, quo, List.map_cons, List.sum_cons, List.length_cons] at ih ⊢
    split <;> omega
/-- only backslashes and double quotes -/
def Two (ts : Tx) : Prop := ∀ c ∈ expand ts, c = 92 ∨ c = 34
theorem Two.runs {ts : Tx} (h : Two ts) (hp : ∀ t ∈ ts, 1 ≤ t.2) : ∀ t ∈ ts, t.1 = 92 ∨ t.1 = 34 := fun t ht => h t.1 (by
  unfold expand
  rw [List.mem_flatMap]
  exact ⟨t, ht, List.mem_replicate.mpr ⟨by have := hp t ht; omega, rfl⟩⟩)
theorem escS_two {k : Nat} : ∀ {l : List Nat}, (∀ c ∈ l, c = 92 ∨ c = 34) → ∀ c ∈ escS k l, c = 92 ∨ c = 34
  | [], _, c, h => by cases h
  | d :: l, hl, c, h => by
    have e : escS k (d :: l) = escC k d ++ escS k l := rfl
    rw [e] at h
    rcases List.mem_append.mp h with h | h
    · unfold escC at h
      split at h
      · exact .inl (List.mem_replicate.mp h).2
      · split at h
        · rcases List.mem_append.mp h with h | h
          · exact .inl (List.mem_replicate.mp h).2
          · exact .inr (List.mem_singleton.mp h)
        · rw [List.mem_singleton.mp h]; exact hl d (List.mem_cons_self ..)
    · exact escS_two (fun c hc => hl c (List.mem_cons_of_mem _ hc)) c h
theorem len_two : ∀ {ts : Tx}, (∀ t ∈ ts, t.1 = 92 ∨ t.1 = 34) → (∀ t ∈ ts, 1 ≤ t.2) → Adj ts → ts.length ≤ 2 * quo ts + (if ts.head?.map (·.1) = some 92 then 1 else 0)
  | [], _, _, _ => by simp
  | [t], h, hp, _ => by
    have h1 := hp t (by simp)
    rcases h t (by simp) with e | e
    · simp [e]
    · simp [e, quo]; omega
  | t :: u :: r, h, hp, ha => by
    have ih := len_two (ts := u :: r) (fun x hx => h x (List.mem_cons_of_mem _ hx)) (fun x hx => hp x (List.mem_cons_of_mem _ hx)) ha.2
    have h1 := hp t (by simp)
    have hne : t.1 ≠ u.1 := ha.1
    have eq : quo (t :: u :: r) = (if t.1 = 34 then t.2.toNat else 0) + quo (u :: r) := by simp [quo]
    rw [eq]
    rcases h t (by simp) with e | e
    · have : u.1 = 34 := (h u (by simp)).resolve_left fun z => hne (by rw [e, z])
      simp only [List.head?_cons, Option.map_some, this, List.length_cons] at ih
      simp only [List.head?_cons, Option.map_some, e, List.length_cons]
      simp at ih ⊢
      omega
    · simp only [List.head?_cons, Option.map_some, e, List.length_cons] at ih ⊢
      simp at ih ⊢
      split at ih <;> omega
/-- q quotes, m signs at most -/
structure TB (q : Nat) (m : Int) (ts : Tx) : Prop where
  ok : TextOk ts
  two : Two ts
  quo : quo ts ≤ q
  sz : size ts ≤ m
theorem TB.len {q : Nat} {m : Int} {ts : Tx} (h : TB q m ts) : ts.length ≤ 2 * q + 1 := by
  have h1 := len_two (h.two.runs h.ok.pos) h.ok.pos h.ok.adj
  have h2 := h.quo
  split at h1 <;> omega
theorem TB.cap {q : Nat} {m : Int} {ts : Tx} (h : TB q m ts) : cap ts ≤ 4 * q + 1 := by
  have h1 := cap_quo (ts := ts)
  have h2 := h.len
  have h3 := h.quo
  omega
theorem TB.nil : TB 0 0 [] := ⟨TextOk.nil, (by intro c hc; cases hc), Nat.le_refl _, Int.le_refl _⟩
theorem acc_ok52 {ts : Tx} (h : AccOk ts) (hz : smI (size ts)) : TextOk ts := ⟨h.sym, h.pos, h.adj, fun t ht => by
  have h1 := le_size h.pos ht
  have h2 := h.pos t ht
  exact hz.le (by omega) (by omega)⟩
theorem TB.esc {q : Nat} {m : Int} {ts : Tx} {k : Nat} (h : TB q m ts) (hm : smI (m * 2 ^ k)) : TB q (m * 2 ^ k) (escaped ts k) := by
  have h0 : 0 ≤ size ts := size_ge0 h.ok.pos
  have hp : (0 : Int) ≤ 2 ^ k := Int.le_of_lt (Int.pow_pos (by decide))
  have hle : size ts * 2 ^ k ≤ m * 2 ^ k := Int.mul_le_mul_of_nonneg_right h.sz hp
  have ok := escaped_textOk (k := k) h.ok (hm.le (Int.mul_nonneg h0 hp) hle)
  obtain ⟨a, e, -⟩ := escaped_ok (k := k) h.ok
  refine ⟨ok, ?_, ?_, ?_⟩
  · unfold Two; rw [e]; exact escS_two h.two
  · rw [quo_expand, e, quo_escS, ← quo_expand]; exact h.quo
  · have h3 := size_expand a.pos
    have h4 := size_expand h.ok.pos
    have h5 := (escS_len (k := k) (l := expand ts)).2
    rw [e] at h3
    refine Int.le_trans ?_ hle
    rw [h3, h4]
    have e1 : ((2 : Int) ^ k) = ((2 ^ k : Nat) : Int) := by norm_cast
    rw [e1]
    exact_mod_cast h5
def addT (n : Int) : Tx := [(92, n), (34, 1)]
theorem addT_ok {n : Int} (h : 1 ≤ n) (h5 : n ≤ 5) : TextOk (addT n) := ⟨by intro t ht; simp only [addT, List.mem_cons, List.not_mem_nil, or_false] at ht; rcases ht with rfl | rfl <;> show symC _ <;> simp only <;> decide, by intro t ht; simp only [addT, List.mem_cons, List.not_mem_nil, or_false] at ht; rcases ht with rfl | rfl <;> simp <;> omega, ⟨(show (92 : Nat) ≠ 34 by decide), trivial⟩, by
  intro t ht
  simp only [addT, List.mem_cons, List.not_mem_nil, or_false] at ht
  rcases ht with rfl | rfl
  · exact (smI_lit (a := 5) (by decide)).le (by simp; omega) (by simp; omega)
  · exact smI_lit (by decide)⟩
theorem expand_addT {n : Int} : expand (addT n) = List.replicate n.toNat 92 ++ [34] := by simp [addT, expand]
theorem TB.add {q : Nat} {m n : Int} {ts : Tx} (h : TB q m ts) (h1 : 1 ≤ n) (h5 : n ≤ 5) (hm : smI (m + 6)) : TB (q + 1) (m + 6) (addRuns ts (addT n)) := by
  have a := addT_ok h1 h5
  obtain ⟨a1, a2, a3, a4, a5⟩ := addRuns_ok h.ok.sym h.ok.pos h.ok.adj a.sym a.pos
  have z := size_expand a2
  have z1 := size_expand h.ok.pos
  rw [a4, List.length_append, expand_addT] at z
  simp only [List.length_append, List.length_replicate, List.length_cons, List.length_nil] at z
  have hs := h.sz
  have z2 : size (addRuns ts (addT n)) ≤ m + 6 := by omega
  refine ⟨acc_ok52 ⟨a1, a2, a3⟩ (hm.le (by omega) z2), ?_, ?_, z2⟩
  · unfold Two
    rw [a4, expand_addT]
    intro c hc
    rcases List.mem_append.mp hc with hc | hc
    · exact h.two c hc
    · rcases List.mem_append.mp hc with hc | hc
      · exact .inl (List.mem_replicate.mp hc).2
      · exact .inr (List.mem_singleton.mp hc)
  · have q0 := h.quo
    rw [quo_expand, a4, List.count_append, expand_addT, ← quo_expand, List.count_append, List.count_replicate]
    simp
    omega
/-! ### the methods of a builder -/
structure Stp where
  op : D
  ts : Tx
  bs : Bx
  e : Nat
def stpD (s : Stp) : D := .tup [s.op, .lst (s.ts.map runD), .lst (s.bs.map blkD), .int s.e]
theorem TB.mono {q q' : Nat} {m m' : Int} {ts : Tx} (h : TB q m ts) (hq : q ≤ q') (hm : m ≤ m') : TB q' m' ts := ⟨h.ok, h.two, Nat.le_trans h.quo hq, Int.le_trans h.sz hm⟩
def OpOk (d : D) : Prop := (∃ n : Int, d = .tup [.str "append", .lst ((addT n).map runD)] ∧ 1 ≤ n ∧ n ≤ 5) ∨ ∃ n : Nat, d = .tup [.str "escape", .int n] ∧ n ≤ 200
/-- blocks of a builder -/
structure HB (q e : Nat) (bs : Bx) : Prop where
  inv : BInv bs
  len : bs.length ≤ 2 * q
  lev : ∀ b ∈ bs, b.2.1 ≤ e
  cnt : ∀ b ∈ bs, b.2.2 ≤ 6 * q
theorem HB.mono {q q' e e' : Nat} {bs : Bx} (h : HB q e bs) (hq : q ≤ q') (he : e ≤ e') : HB q' e' bs :=
  ⟨h.inv, by have := h.len; omega, fun b hb => Nat.le_trans (h.lev b hb) he, fun b hb => by have := h.cnt b hb; omega⟩
theorem HB.nil {q e : Nat} : HB q e [] := ⟨.nil, by simp, by simp, by simp⟩
structure LatOk (q : Nat) (ts : Tx) (bs : Bx) (e : Nat) : Prop where
  tx : TB q ((6 * q : Nat) * 2 ^ e) ts
  hi : HB q e bs
  le : e ≤ 200
theorem pow_e (e : Nat) : (1 : Int) ≤ 2 ^ e := by
  have : (0 : Int) < 2 ^ e := Int.pow_pos (by decide)
  omega
theorem LatOk.mono {q q' : Nat} {ts : Tx} {bs : Bx} {e : Nat} (h : LatOk q ts bs e) (hq : q ≤ q') : LatOk q' ts bs e :=
  ⟨h.tx.mono hq (Int.mul_le_mul_of_nonneg_right (by omega) (by have := pow_e e; omega)), h.hi.mono hq (Nat.le_refl _), h.le⟩
structure StpOk (q : Nat) (s : Stp) : Prop extends LatOk q s.ts s.bs s.e where
  opk : OpOk s.op
def Cur (q : Nat) (ss : List Stp) : Prop := ∀ s ∈ ss, StpOk q s
theorem Cur.mono {q q' : Nat} {ss : List Stp} (h : Cur q ss) (hq : q ≤ q') : Cur q' ss := fun s hs => ⟨(h s hs).toLatOk.mono hq, (h s hs).opk⟩
def lat (ss : List Stp) : Tx × Bx × Nat := match ss.getLast? with
  | some s => (s.ts, s.bs, s.e)
  | none => ([], [], 0)
theorem Cur.lat {q : Nat} {ss : List Stp} (h : Cur q ss) : LatOk q (lat ss).1 (lat ss).2.1 (lat ss).2.2 := by
  unfold VS.lat
  cases e : ss.getLast? with
  | none => exact ⟨TB.nil.mono (Nat.zero_le _) (by simp; omega), HB.nil, by simp⟩
  | some s => exact (h s (List.mem_of_getLast? e)).toLatOk
def latD (ss : List Stp) : D := .tup [.lst ((lat ss).1.map runD), .lst ((lat ss).2.1.map blkD), .int (lat ss).2.2]
def obB (a b : Addr) (ss : List Stp) : Sv := .tre (.ob a "Builder" ["steps"] [.lst b ((ss.map stpD).map .leaf)])
theorem smI_b {q e : Nat} (hq : q ≤ 20) (he : e ≤ 200) : smI ((6 * q : Nat) * 2 ^ e + 6) := by
  have h1 : (2 : Nat) ^ e ≤ 2 ^ 200 := Nat.pow_le_pow_right (by decide) he
  have e1 : ((2 : Int) ^ e) = ((2 ^ e : Nat) : Int) := by norm_cast
  have h2 : 6 * q * 2 ^ e ≤ 120 * 2 ^ 200 := Nat.mul_le_mul (by omega) h1
  refine (smI_lit (a := 120 * 2 ^ 200 + 6) (by decide)).le ?_ ?_
  · rw [e1]; exact_mod_cast Nat.zero_le _
  · rw [e1]; exact_mod_cast Nat.add_le_add_right h2 6
theorem smI_b0 {q e : Nat} (hq : q ≤ 20) (he : e ≤ 200) : smI ((6 * q : Nat) * 2 ^ e) := (smI_b hq he).le (Int.mul_nonneg (by omega) (by have := pow_e e; omega)) (by omega)
/-! appended, also with a bad text -/
def c_y_appendedX : Ctr := fun ρ _ Z => ∃ v w ts, ρ = [.dat v, .dat w] ∧ IsTx v ts ∧ ts.length ≤ 8000 ∧ w.sok false = true ∧ w.wt ≤ 16777216 ∧ isTextD w = false ∧ Z ⟨"InvalidText", none⟩ [.dat v, .dat w]
def c_y_appended : Ctr := orC c_appended c_y_appendedX
/-- y_appended, slots ['text', 'other', 'runs', 'more']; lends []; gives own -/
def b_y_appended : AS := sSeq (sParO 2 3 (oDef c_checked_text [] (rDat (aVar 0) (rNil))) (aDef c_checked_text [] (rDat (aVar 1) (rNil))))
  (sSeq (sDrop (aDef c_add_runs [] (rIo 2 (rDat (aVar 3) (rNil)))))
  (sRetV 2))
theorem p_y_appended : Sat 2 4 b_y_appended c_y_appended := sat_or (by
  intro ρ Q Z hl h
  obtain ⟨v, w, ts, us, rfl, hv, hw, h1, h2, hq⟩ := h
  unfold b_y_appended
  simp [endsA]
  refine .inl ⟨v, ts, rfl, hv, h1, ?_⟩
  simp
  refine .inl ⟨w, us, rfl, hw, h2, ?_⟩
  simp
  refine ⟨ts, us, rfl, hv.ok.sym, hw.ok.sym, by omega, ?_⟩
  simpa using hq) (by
  intro ρ Q Z hl h
  obtain ⟨v, w, ts, rfl, hv, h1, h2, h3, h4, hz⟩ := h
  unfold b_y_appended
  simp [endsA]
  refine .inl ⟨v, ts, rfl, hv, h1, ?_⟩
  simp
  refine .inr ⟨w, false, rfl, h2, h3, h4, ?_⟩
  simpa using hz)
/-! the methods -/
def c_Builder_init : Ctr := fun ρ Q _ => ∃ a, ρ = [.tre (.ob a "Builder" [] [])] ∧ ∀ b, Q (.dat .non) [obB a b []]
/-- Builder_init, slots ['self']; lends []; gives dat -/
def b_Builder_init : AS := sFldO 0 "Builder" "steps" (oLst (aNil))
theorem p_Builder_init : Sat 1 1 b_Builder_init c_Builder_init := by
  intro ρ Q Z hl h
  obtain ⟨a, rfl, hq⟩ := h
  unfold b_Builder_init
  simp [endsA]
  refine ⟨by decide +kernel, fun b => ?_⟩
  exact hq b
theorem int_sok {nd : Bool} {n : Nat} (h : n ≤ 200) : (D.int (n : Int)).sok nd = true := by
  simp only [D.sok, decide_eq_true_eq]
  exact Nat.lt_trans (log2_lt (n := 9) (by decide) (by omega)) (by decide)
theorem OpOk.m {nd : Bool} {d : D} (h : OpOk d) : d.sok nd = true ∧ d.wt ≤ 10000 ∧ d.dep ≤ 3 := by
  rcases h with ⟨n, rfl, h1, h5⟩ | ⟨n, rfl, hn⟩
  · have a := addT_ok h1 h5
    have w := text_wt (ts := addT n)
    have e := text_dep (ts := addT n)
    have l : (addT n).length = 2 := rfl
    have k := a.sok (nd := nd)
    have z : (D.str (Str.ofString "append")).sok nd = true := by cases nd <;> decide +kernel
    refine ⟨?_, ?_, ?_⟩
    · simp only [D.sok, D.sokL, Bool.and_true, Bool.and_eq_true] at k z ⊢
      exact ⟨z, k⟩
    · have lz : (Str.ofString "append").length = 6 := by decide +kernel
      simp only [D.wt, D.wtL, lz] at w ⊢
      omega
    · simp only [D.dep, D.depL] at e ⊢
      omega
  · have z : (D.str (Str.ofString "escape")).sok nd = true := by cases nd <;> decide +kernel
    have k := int_sok (nd := nd) hn
    refine ⟨?_, ?_, ?_⟩
    · simp only [D.sok, D.sokL, Bool.and_true, Bool.and_eq_true] at k z ⊢
      exact ⟨z, k⟩
    · have lz : (Str.ofString "escape").length = 6 := by decide +kernel
      simp only [D.wt, D.wtL, lz]
      omega
    · simp only [D.dep, D.depL]
      omega
theorem HB.sok {nd : Bool} {q e : Nat} {bs : Bx} (h : HB q e bs) (hq : q ≤ 20) : (D.lst (bs.map blkD)).sok nd = true := by
  rw [D.sok, sokL_iff]
  intro d hd
  obtain ⟨b, hb, rfl⟩ := List.mem_map.mp hd
  have h1 := h.cnt b hb
  have h2 := h.inv.pos b hb
  exact sok_blk (h.inv.sym b hb) (h.inv.lev b hb) ((smI_lit (a := 1000) (by decide)).le (by omega) (by omega))
theorem LatOk.m {nd : Bool} {q : Nat} {ts : Tx} {bs : Bx} {e : Nat} (h : LatOk q ts bs e) (hq : q ≤ 20) : (D.lst (ts.map runD)).sok nd = true ∧ (D.lst (ts.map runD)).wt ≤ 80000 ∧ (D.lst (ts.map runD)).dep ≤ 2 ∧ (D.lst (bs.map blkD)).sok nd = true ∧ (D.lst (bs.map blkD)).wt ≤ 160000 ∧ (D.lst (bs.map blkD)).dep ≤ 2 := by
  have h1 := text_wt (ts := ts)
  have h2 := h.tx.len
  have h3 := blks_wt (bs := bs)
  have h4 := h.hi.len
  exact ⟨h.tx.ok.sok, by omega, text_dep, h.hi.sok hq, by omega, blks_dep⟩
theorem StpOk.m {nd : Bool} {q : Nat} {s : Stp} (h : StpOk q s) (hq : q ≤ 20) : (stpD s).sok nd = true ∧ (stpD s).dep ≤ 4 := by
  obtain ⟨a1, -, a3, a4, -, a6⟩ := h.toLatOk.m (nd := nd) hq
  obtain ⟨o1, -, o3⟩ := h.opk.m (nd := nd)
  have k := int_sok (nd := nd) h.le
  refine ⟨?_, ?_⟩
  · unfold stpD
    rw [D.sok, D.sokL, D.sokL, D.sokL, D.sokL, D.sokL, o1, a1, a4, k]
    rfl
  · unfold stpD
    rw [D.dep, D.depL, D.depL, D.depL, D.depL, D.depL]
    have : (D.int (s.e : Int)).dep = 0 := rfl
    omega
theorem eqOk_stps {q : Nat} {ss : List Stp} (h : Cur q ss) (hq : q ≤ 20) : (D.lst (ss.map stpD)).eqOk := by
  refine eqOk_of ?_ ?_
  · rw [D.sok, sokL_iff]
    intro d hd
    obtain ⟨s, hs, rfl⟩ := List.mem_map.mp hd
    exact ((h s hs).m hq).1
  · have : D.depL (ss.map stpD) ≤ 4 := by
      rw [depL_le]
      intro d hd
      obtain ⟨s, hs, rfl⟩ := List.mem_map.mp hd
      exact ((h s hs).m (nd := true) hq).2
    rw [D.dep]
    omega
def c_Builder_latest : Ctr := fun ρ Q _ => ∃ a b ss q, ρ = [obB a b ss] ∧ Cur q ss ∧ q ≤ 20 ∧ ss.length ≤ 1000 ∧ Q (.dat (latD ss)) [obB a b ss]
/-- Builder_latest, slots ['self']; lends []; gives dat -/
def b_Builder_latest : AS := sRet (aIfE (tCmpV bNe (vTFld 0 0 "Builder" "steps") (vLst (vNil))) (aSl (aFIx 0 0 "Builder" "steps" (vUn bNeg (vC (.int 1)))) (aPart (aC (.int 1))) (aNoP)) (aTup (aCons (aFrz (oLst (aNil))) (aCons (aFrz (oLst (aNil))) (aCons (aC (.int 0)) (aNil))))))
theorem p_Builder_latest : Sat 1 1 b_Builder_latest c_Builder_latest := by
  intro ρ Q Z hl h
  obtain ⟨a, b, ss, q, rfl, hc, hq20, hl2, hq⟩ := h
  have ok := eqOk_stps hc hq20
  unfold b_Builder_latest
  unfold obB at hq ⊢
  generalize hx : ss.map stpD = xs at hq ok ⊢
  simp [endsA]
  refine ⟨b, xs, ⟨rfl, rfl⟩, .inl ok, ?_⟩
  rcases List.eq_nil_or_concat ss with rfl | ⟨us, s, hu⟩
  · rw [List.map_nil] at hx
    subst hx
    exact .inl ⟨rfl, hq⟩
  · rw [List.concat_eq_append] at hu
    subst hu
    rw [List.map_append, List.map_singleton] at hx
    subst hx
    refine .inr ⟨by simp, b, _, ⟨rfl, rfl⟩, stpD s, ?_, ?_⟩
    · exact atI_last
    · unfold latD lat at hq
      simp only [List.getLast?_append, List.getLast?_singleton, Option.some_or] at hq
      generalize hL : List.map stpD us ++ [stpD s] = L at hq ⊢
      rw [show stpD s = .tup [s.op, .lst (s.ts.map runD), .lst (s.bs.map blkD), .int s.e] from rfl]
      simp
      exact ⟨fun z => absurd z (by decide), hq⟩
def c_Builder___len__ : Ctr := fun ρ Q _ => ∃ a b ss, ρ = [obB a b ss] ∧ Q (.dat (.int (ss.length : Nat))) [obB a b ss]
/-- Builder___len__, slots ['self']; lends []; gives dat -/
def b_Builder___len__ : AS := sRet (aFlat (vCall bLen (vCons (vTFld 0 0 "Builder" "steps") (vNil))))
theorem p_Builder___len__ : Sat 1 1 b_Builder___len__ c_Builder___len__ := by
  intro ρ Q Z hl h
  obtain ⟨a, b, ss, rfl, hq⟩ := h
  unfold b_Builder___len__
  unfold obB at hq ⊢
  have hll : (ss.map stpD).length = ss.length := List.length_map ..
  rw [← hll] at hq
  generalize hx : ss.map stpD = xs at hq ⊢
  simp [endsA]
  exact ⟨b, xs, ⟨rfl, rfl⟩, hq⟩
theorem obB_lst {a b : Addr} {ss : List Stp} : obB a b ss = .tre (.ob a "Builder" ["steps"] [.lst b ((ss.map stpD).map .leaf)]) := rfl
/-- what reads the latest state -/
theorem run_latest {a b : Addr} {ss : List Stp} {q : Nat} {Q : KD} {Z : KX} {rest : List Sv} (hc : Cur q ss) (hq20 : q ≤ 20) (hl2 : ss.length ≤ 1000) (hq : Q (latD ss) (obB a b ss :: rest)) : aMethT "Builder" "latest" 1 c_Builder_latest 0 rNil (obB a b ss :: rest) Q Z := by
  simp [obB_lst]
  refine ⟨by decide +kernel, a, b, ss, q, by simp [obB_lst], hc, hq20, hl2, ?_⟩
  simp [obB_lst] at hq ⊢
  exact hq
def c_Builder_current_text : Ctr := fun ρ Q _ => ∃ a b ss q, ρ = [obB a b ss] ∧ Cur q ss ∧ q ≤ 20 ∧ ss.length ≤ 1000 ∧ Q (.dat (.lst ((lat ss).1.map runD))) [obB a b ss]
/-- Builder_current_text, slots ['self']; lends []; gives dat -/
def b_Builder_current_text : AS := sRet (aFrz (oListA (aCons (aOp bIx (aMethT "Builder" "latest" 1 c_Builder_latest 0 rNil) (aC (.int 0))) (aNil))))
theorem p_Builder_current_text : Sat 1 1 b_Builder_current_text c_Builder_current_text := by
  intro ρ Q Z hl h
  obtain ⟨a, b, ss, q, rfl, hc, hq20, hl2, hq⟩ := h
  unfold b_Builder_current_text
  simp [endsA, -q_aMethT]
  refine run_latest hc hq20 hl2 ?_
  unfold latD
  simp
  exact hq
def c_Builder_current_history : Ctr := fun ρ Q _ => ∃ a b ss q, ρ = [obB a b ss] ∧ Cur q ss ∧ q ≤ 20 ∧ ss.length ≤ 1000 ∧ Q (.dat (.lst ((lat ss).2.1.map blkD))) [obB a b ss]
/-- Builder_current_history, slots ['self']; lends []; gives dat -/
def b_Builder_current_history : AS := sRet (aFrz (oListA (aCons (aOp bIx (aMethT "Builder" "latest" 1 c_Builder_latest 0 rNil) (aC (.int 1))) (aNil))))
theorem p_Builder_current_history : Sat 1 1 b_Builder_current_history c_Builder_current_history := by
  intro ρ Q Z hl h
  obtain ⟨a, b, ss, q, rfl, hc, hq20, hl2, hq⟩ := h
  unfold b_Builder_current_history
  simp [endsA, -q_aMethT]
  refine run_latest hc hq20 hl2 ?_
  unfold latD
  simp
  exact hq
def c_Builder_escape_count : Ctr := fun ρ Q _ => ∃ a b ss q, ρ = [obB a b ss] ∧ Cur q ss ∧ q ≤ 20 ∧ ss.length ≤ 1000 ∧ Q (.dat (.int ((lat ss).2.2 : Nat))) [obB a b ss]
/-- Builder_escape_count, slots ['self']; lends []; gives dat -/
def b_Builder_escape_count : AS := sRet (aOp bIx (aMethT "Builder" "latest" 1 c_Builder_latest 0 rNil) (aC (.int 2)))
theorem p_Builder_escape_count : Sat 1 1 b_Builder_escape_count c_Builder_escape_count := by
  intro ρ Q Z hl h
  obtain ⟨a, b, ss, q, rfl, hc, hq20, hl2, hq⟩ := h
  unfold b_Builder_escape_count
  simp [endsA, -q_aMethT]
  refine run_latest hc hq20 hl2 ?_
  unfold latD
  simp
  exact hq
def c_Builder_undoV : Ctr := fun ρ Q _ => ∃ a b ss s q, ρ = [obB a b (ss ++ [s])] ∧ Cur q (ss ++ [s]) ∧ q ≤ 20 ∧ Q (.dat .non) [obB a b ss]
def c_Builder_undoX : Ctr := fun ρ _ Z => ∃ a b, ρ = [obB a b []] ∧ Z ⟨"NothingToUndo", none⟩ [obB a b []]
def c_Builder_undo : Ctr := orC c_Builder_undoV c_Builder_undoX
/-- Builder_undo, slots ['self']; lends []; gives dat -/
def b_Builder_undo : AS := sSeq (sIf (tCmpV bEq (vTFld 0 0 "Builder" "steps") (vLst (vNil))) (sRaise0 "NothingToUndo") (sNx))
  (sDrop (aFPop 0 0 "Builder" "steps"))
theorem p_Builder_undo : Sat 1 1 b_Builder_undo c_Builder_undo := sat_or (by
  intro ρ Q Z hl h
  obtain ⟨a, b, ss, s, q, rfl, hc, hq20, hq⟩ := h
  have ok := eqOk_stps hc hq20
  unfold b_Builder_undo
  rw [List.map_append, List.map_singleton] at ok
  rw [obB_lst] at hq ⊢
  rw [List.map_append, List.map_singleton]
  generalize ss.map stpD = xs at hq ok ⊢
  generalize stpD s = x at ok ⊢
  simp [endsA]
  refine ⟨b, xs ++ [x], ⟨rfl, by simp⟩, .inl ok, ?_⟩
  rw [if_neg (by simp)]
  refine ⟨b, xs ++ [x], ⟨rfl, by simp⟩, ⟨x, by simp⟩, ?_⟩
  simpa using hq) (by
  intro ρ Q Z hl h
  obtain ⟨a, b, rfl, hz⟩ := h
  unfold b_Builder_undo
  rw [obB_lst] at hz ⊢
  simp [endsA]
  refine ⟨b, [], ⟨rfl, rfl⟩, .inl (by simp), ?_⟩
  simpa using hz)
def c_Builder_operations : Ctr := fun ρ Q _ => ∃ a b ss q, ρ = [obB a b ss] ∧ Cur q ss ∧ q ≤ 20 ∧ ss.length ≤ 1000 ∧ Q (.dat (.lst (ss.map (·.op)))) [obB a b ss]
/-- Builder_operations, slots ['self', 'found', 'operation', 'text', 'history', 'escapes', 'word', 'value']; lends []; gives dat -/
def b_Builder_operations : AS := sSeq (sSetO (oLst (aNil)) 1)
  (sSeq (sForF 0 0 "Builder" "steps" (agTup (agCons (agName 2) (agCons (agName 3) (agCons (agName 4) (agCons (agName 5) (agNil)))))) (sSeq (sAsg (aVar 2) (agTup (agCons (agName 6) (agCons (agName 7) (agNil)))))
  (sAppO 1 (aTup (aCons (aVar 6) (aCons (aIfE (tCmpV bEq (vVar 6) (vC (.str "append"))) (aFrz (oListA (aCons (aVar 7) (aNil)))) (aVar 7)) (aNil)))))))
  (sRet (aVar 1)))
theorem p_Builder_operations : Sat 1 8 b_Builder_operations c_Builder_operations := by
  intro ρ Q Z hl h
  obtain ⟨a, b, ss, q, rfl, hc, hq20, hl2, hq⟩ := h
  unfold b_Builder_operations
  refine seq_hide fun u hu => ?_
  simp [endsA]
  subst hu
  refine seq_hide fun u hu => ?_
  rw [obB_lst] at hq ⊢
  simp
  refine ⟨b, ss.map stpD, ⟨rfl, by simp⟩, ?_⟩
  have e0 : List.map (Tr.leaf ∘ stpD) ss = (ss.map stpD).map .leaf := by simp
  rw [e0]
  refine loopF_of (fun ds ρ => ∃ (us ws : List Stp) (v2 v3 v4 v5 v6 v7 : Sv), ss = us ++ ws ∧ ds = ws.map stpD ∧ ρ = [.tre (.ob a "Builder" ["steps"] [.lst b ((ss.map stpD).map .leaf)]), .own false (us.map (·.op)), v2, v3, v4, v5, v6, v7] ∧ noV v2 ∧ noV v3 ∧ noV v4 ∧ noV v5 ∧ noV v6 ∧ noV v7) ?_ ?_ ?_ _ _ ⟨[], ss, .un, .un, .un, .un, .un, .un, rfl, rfl, rfl, trivial, trivial, trivial, trivial, trivial, trivial⟩
  · rintro ds ρ ⟨us, ws, v2, v3, v4, v5, v6, v7, -, -, rfl, -⟩
    simp
  · rintro ρ ⟨us, ws, v2, v3, v4, v5, v6, v7, h1, h2, rfl, -⟩
    have : ws = [] := by simpa using h2.symm
    subst this
    rw [List.append_nil] at h1
    subst h1
    subst hu
    simp
    simpa using hq
  · rintro d ds ρ X ⟨us, ws, v2, v3, v4, v5, v6, v7, h1, h2, rfl, n2, n3, n4, n5, n6, n7⟩ hX
    obtain ⟨s, ws, rfl, rfl, rfl⟩ : ∃ s ws', ws = s :: ws' ∧ d = stpD s ∧ ds = ws'.map stpD := by
      cases ws with
      | nil => simp at h2
      | cons t us' => simp at h2; exact ⟨t, us', rfl, h2.1, h2.2⟩
    have ho := (hc s (by rw [h1]; simp)).opk
    generalize hob : Sv.tre (.ob a "Builder" ["steps"] [.lst b ((ss.map stpD).map .leaf)]) = ob at hX ⊢
    unfold stpD
    have w1 : ¬ Str.ofString "escape" = Str.ofString "append" := by decide +kernel
    have hul : us.length ≤ 1000 := by have := congrArg List.length h1; simp at this; omega
    rcases ho with ⟨n, e, -⟩ | ⟨n, e, -⟩
    · simp [okV_of n2, okV_of n3, okV_of n4, okV_of n5, okV_of n6, okV_of n7, e]
      have em : (us ++ [s]).map (·.op) = us.map (·.op) ++ [s.op] := by simp
      rw [e] at em
      exact ⟨by omega, hX _ ⟨us ++ [s], ws, _, _, _, _, _, _, by rw [h1]; simp, rfl, by rw [em], by trivial, by trivial, by trivial, by trivial, by trivial, by trivial⟩⟩
    · simp [okV_of n2, okV_of n3, okV_of n4, okV_of n5, okV_of n6, okV_of n7, e, w1]
      have em : (us ++ [s]).map (·.op) = us.map (·.op) ++ [s.op] := by simp
      rw [e] at em
      exact ⟨by omega, hX _ ⟨us ++ [s], ws, _, _, _, _, _, _, by rw [h1]; simp, rfl, by rw [em], by trivial, by trivial, by trivial, by trivial, by trivial, by trivial⟩⟩
def c_Builder_state_afterV : Ctr := fun ρ Q _ => ∃ a b ss q v, ρ = [obB a b ss, .dat v] ∧ Cur q ss ∧ q ≤ 20 ∧ ss.length ≤ 1000 ∧ v.noObj ∧ isIntD v 0 (.int (ss.length : Nat)) = true ∧ ∀ d, Q (.dat d) [obB a b ss, .dat v]
def c_Builder_state_afterX : Ctr := fun ρ _ Z => ∃ a b ss q v, ρ = [obB a b ss, .dat v] ∧ Cur q ss ∧ q ≤ 20 ∧ ss.length ≤ 1000 ∧ v.noObj ∧ isIntD v 0 (.int (ss.length : Nat)) = false ∧ Z ⟨"InvalidNumber", none⟩ [obB a b ss, .dat v]
def c_Builder_state_after : Ctr := orC c_Builder_state_afterV c_Builder_state_afterX
/-- Builder_state_after, slots ['self', 'count']; lends []; gives dat -/
def b_Builder_state_after : AS := sSeq (sIf (aNot (vTr (vDef c_is_integer [] (vCons (vVar 1) (vCons (vC (.int 0)) (vCons (vCall bLen (vCons (vTFld 0 0 "Builder" "steps") (vNil))) (vNil))))))) (sRaise0 "InvalidNumber") (sNx))
  (sRet (aIfE (tCmpV bGt (vVar 1) (vC (.int 0))) (aFrz (oListA (aCons (aOp bIx (aFIx 0 0 "Builder" "steps" (vOp bSub (vVar 1) (vC (.int 1)))) (aC (.int 1))) (aNil)))) (aFrz (oLst (aNil)))))
theorem int_of {v : D} {m : Int} (h : isIntD v 0 (.int m) = true) : ∃ n : Nat, v = .int n ∧ (n : Int) ≤ m := by
  cases v <;> first | (simp [isIntD] at h; done) | skip
  rename_i i
  simp [isIntD] at h
  exact ⟨i.toNat, by rw [Int.toNat_of_nonneg h.1], by omega⟩
theorem p_Builder_state_after : Sat 2 2 b_Builder_state_after c_Builder_state_after := sat_or (by
  intro ρ Q Z hl h
  obtain ⟨a, b, ss, q, v, rfl, hc, hq20, hl2, hv, hi, hq⟩ := h
  obtain ⟨n, rfl, hn⟩ := int_of hi
  unfold b_Builder_state_after
  refine seq_hide fun u hu => ?_
  rw [obB_lst] at hq ⊢
  have hll : (ss.map stpD).length = ss.length := List.length_map ..
  generalize hx : ss.map stpD = xs at hq hll ⊢
  simp [endsA]
  refine ⟨b, xs, ⟨rfl, rfl⟩, _, _, _, rfl, hv, .inr ⟨_, rfl⟩, ?_⟩
  rw [hll]
  simp [hi]
  subst hu
  simp
  split
  · rename_i h0
    have e1 : ((n : Nat) : Int) - 1 = ((n - 1 : Nat) : Int) := by omega
    have hlt : n - 1 < ss.length := by omega
    refine ⟨b, xs, ⟨rfl, rfl⟩, stpD ss[n - 1], ?_, ?_⟩
    · rw [e1, atI_nat, ← hx, List.getElem?_map, List.getElem?_eq_getElem hlt]
      rfl
    · rw [show stpD ss[n - 1] = .tup [ss[n - 1].op, .lst (ss[n - 1].ts.map runD), .lst (ss[n - 1].bs.map blkD), .int ss[n - 1].e] from rfl]
      simp
      exact hq _
  · exact hq _) (by
  intro ρ Q Z hl h
  obtain ⟨a, b, ss, q, v, rfl, hc, hq20, hl2, hv, hi, hz⟩ := h
  unfold b_Builder_state_after
  refine seq_hide fun u hu => ?_
  rw [obB_lst] at hz ⊢
  have hll : (ss.map stpD).length = ss.length := List.length_map ..
  generalize hx : ss.map stpD = xs at hz hll ⊢
  simp [endsA]
  refine ⟨b, xs, ⟨rfl, rfl⟩, _, _, _, rfl, hv, .inr ⟨_, rfl⟩, ?_⟩
  rw [hll]
  simp [hi]
  exact hz)
/-- all levels up by n -/
def upB (n : Nat) (bs : Bx) : Bx := bs.map fun b => (b.1, b.2.1 + n, b.2.2)
theorem HB.up {q e n : Nat} {bs : Bx} (h : HB q e bs) (he : e + n ≤ 200) : HB q (e + n) (upB n bs) := by
  have hm : ∀ {x}, x ∈ upB n bs → ∃ b ∈ bs, x = (b.1, b.2.1 + n, b.2.2) := fun hx => by
    obtain ⟨b, hb, rfl⟩ := List.mem_map.mp hx
    exact ⟨b, hb, rfl⟩
  refine ⟨⟨fun x hx => ?_, fun x hx => ?_, fun x hx => ?_⟩, ?_, fun x hx => ?_, fun x hx => ?_⟩
  · obtain ⟨b, hb, rfl⟩ := hm hx; exact h.inv.sym b hb
  · obtain ⟨b, hb, rfl⟩ := hm hx; have := h.lev b hb; show b.2.1 + n ≤ 200; omega
  · obtain ⟨b, hb, rfl⟩ := hm hx; exact h.inv.pos b hb
  · unfold upB; rw [List.length_map]; exact h.len
  · obtain ⟨b, hb, rfl⟩ := hm hx; have := h.lev b hb; show b.2.1 + n ≤ e + n; omega
  · obtain ⟨b, hb, rfl⟩ := hm hx; exact h.cnt b hb
theorem blks_up {n : Nat} {bs : Bx} : (upB n bs).map blkD = (bs.map blkD).map fun d => match d with | .tup [a, .int l, c] => .tup [a, .int (l + n), c] | d => d := by
  unfold upB
  rw [List.map_map, List.map_map]
  exact List.map_congr_left fun b _ => by simp [blkD, pieD]
def escStp (ss : List Stp) (n : Nat) : Stp := ⟨.tup [.str "escape", .int n], escaped (lat ss).1 n, upB n (lat ss).2.1, (lat ss).2.2 + n⟩
theorem cur_esc {q n : Nat} {ss : List Stp} (h : Cur q ss) (hq : q ≤ 20) (hn : (lat ss).2.2 + n ≤ 200) : Cur q (ss ++ [escStp ss n]) := fun s hs => by
  rcases List.mem_append.mp hs with hs | hs
  · exact h s hs
  · rw [List.mem_singleton.mp hs]
    have l := h.lat
    have e1 : (((6 * q : Nat) : Int) * 2 ^ (lat ss).2.2) * 2 ^ n = ((6 * q : Nat) : Int) * 2 ^ ((lat ss).2.2 + n) := by rw [Int.pow_add, Int.mul_assoc]
    have t := l.tx.esc (k := n) (by rw [e1]; exact smI_b0 hq hn)
    rw [e1] at t
    exact ⟨⟨t, l.hi.up hn, hn⟩, .inr ⟨n, rfl, by omega⟩⟩
theorem lat_snoc {ss : List Stp} {s : Stp} : lat (ss ++ [s]) = (s.ts, s.bs, s.e) := by unfold lat; simp
def c_Builder_escape_allV : Ctr := fun ρ Q _ => ∃ a b ss q, ∃ n : Nat, ρ = [obB a b ss, .dat (.int n)] ∧ Cur q ss ∧ q ≤ 20 ∧ ss.length ≤ 1000 ∧ (lat ss).2.2 + n ≤ 200 ∧ Q (.dat .non) [obB a b (ss ++ [escStp ss n]), .dat (.int n)]
def c_Builder_escape_allX : Ctr := fun ρ _ Z => ∃ a b ss q v, ρ = [obB a b ss, .dat v] ∧ Cur q ss ∧ q ≤ 20 ∧ ss.length ≤ 1000 ∧ v.noObj ∧ isIntD v 0 (.int (200 - (lat ss).2.2)) = false ∧ Z ⟨"InvalidNumber", none⟩ [obB a b ss, .dat v]
def c_Builder_escape_all : Ctr := orC c_Builder_escape_allV c_Builder_escape_allX
/-- Builder_escape_all, slots ['self', 'times', 'before', 'history', 'escapes', 'blocks', 'symbol', 'level', 'count']; lends []; gives dat -/
def b_Builder_escape_all : AS := sSeq (sAsg (aMethT "Builder" "latest" 1 c_Builder_latest 0 rNil) (agTup (agCons (agName 2) (agCons (agName 3) (agCons (agName 4) (agNil))))))
  (sSeq (sIf (aNot (vTr (vDef c_is_integer [] (vCons (vVar 1) (vCons (vC (.int 0)) (vCons (vOp bSub (vC (.int 200)) (vVar 4)) (vNil))))))) (sRaise0 "InvalidNumber") (sNx))
  (sSeq (sAsg (aFrz (oLc (iAny (aVar 3)) (agTup (agCons (agName 6) (agCons (agName 7) (agCons (agName 8) (agNil))))) (aYes) (aTup (aCons (aVar 6) (aCons (aOp bAddB (aVar 7) (aVar 1)) (aCons (aVar 8) (aNil))))) [6, 7, 8])) (agName 5))
  (sFApp 0 0 "Builder" "steps" (aTup (aCons (aTup (aCons (aC (.str "escape")) (aCons (aVar 1) (aNil)))) (aCons (aDef c_escape [] (rDat (aVar 2) (rDat (aVar 1) (rNil)))) (aCons (aVar 5) (aCons (aOp bAddB (aVar 4) (aVar 1)) (aNil)))))))))
theorem p_Builder_escape_all : Sat 2 9 b_Builder_escape_all c_Builder_escape_all := sat_or (by
  intro ρ Q Z hl h
  obtain ⟨a, b, ss, q, n, rfl, hc, hq20, hl2, hn, hq⟩ := h
  unfold b_Builder_escape_all
  refine seq_hide fun u hu => ?_
  simp [endsA, -q_aMethT]
  refine run_latest hc hq20 hl2 ?_
  unfold latD
  simp
  subst hu
  refine seq_hide fun u hu => ?_
  simp
  have hi : isIntD (.int (n : Int)) 0 (.int (200 - (lat ss).2.2)) = true := by simp [isIntD]; omega
  refine ⟨_, _, _, rfl, trivial, .inr ⟨_, rfl⟩, ?_⟩
  simp [hi]
  subst hu
  have la := hc.lat
  have hlen := la.hi.len
  refine seq_hide fun u hu => ?_
  simp
  refine comp_map (fun d => match d with | .tup [a, .int l, c] => .tup [a, .int (l + n), c] | d => d) (by rw [List.length_map, size16]; omega) ?_ ?_
  · intro d hd X hX
    obtain ⟨x, hx, rfl⟩ := List.mem_map.mp hd
    simp [blkD, pieD] at hX ⊢
    exact hX
  · rw [← blks_up]
    simp
    subst hu
    rw [obB_lst, List.map_append, List.map_singleton] at hq
    rw [obB_lst]
    have hll : (ss.map stpD).length = ss.length := List.length_map ..
    generalize ss.map stpD = xs at hq hll ⊢
    simp
    refine ⟨b, ⟨rfl, xs, rfl⟩, ?_⟩
    have t1 := la.tx.len
    have t2 := la.tx.cap
    refine .inl ⟨_, _, n, rfl, la.tx.ok.isTx, by omega, by omega, by omega, ?_⟩
    simp
    refine ⟨xs, rfl, by omega, ?_⟩
    simpa [stpD, escStp] using hq) (by
  intro ρ Q Z hl h
  obtain ⟨a, b, ss, q, v, rfl, hc, hq20, hl2, hv, hi, hz⟩ := h
  unfold b_Builder_escape_all
  refine seq_hide fun u hu => ?_
  simp [endsA, -q_aMethT]
  refine run_latest hc hq20 hl2 ?_
  unfold latD
  simp
  subst hu
  refine seq_hide fun u hu => ?_
  simp
  refine ⟨_, _, _, rfl, hv, .inr ⟨_, rfl⟩, ?_⟩
  simp [hi]
  exact hz)
/-- blocks behind a text that is added -/
def addBs0 (bs : Bx) (ts : Tx) : Bx := ts.foldl (fun bs t => addB bs t.1 0 t.2) bs
def addStp (ss : List Stp) (n : Int) : Stp := ⟨.tup [.str "append", .lst ((addT n).map runD)], addRuns (lat ss).1 (addT n), addBs0 (lat ss).2.1 (addT n), (lat ss).2.2⟩
theorem HB.add {q e : Nat} {bs : Bx} {n : Int} (h : HB q e bs) (h1 : 1 ≤ n) (h5 : n ≤ 5) : HB (q + 1) e (addBs0 bs (addT n)) := by
  have key : ∀ {bs : Bx} {c : Nat} {m : Int} {k : Nat} {z : Int}, BInv bs → bs.length ≤ k → (∀ b ∈ bs, b.2.1 ≤ e) → (∀ b ∈ bs, b.2.2 ≤ z) → 0 ≤ z → symC c → 1 ≤ m → BInv (addB bs c 0 m) ∧ (addB bs c 0 m).length ≤ k + 1 ∧ (∀ b ∈ addB bs c 0 m, b.2.1 ≤ e) ∧ ∀ b ∈ addB bs c 0 m, b.2.2 ≤ z + m := by
    intro bs c m k z i1 i2 i3 i4 z0 hc hm
    obtain ⟨j1, j2, -⟩ := addB_inv (n := m) i1 hc (Nat.zero_le 200)
    refine ⟨j1, by omega, ?_⟩
    rcases addB_cases (bs := bs) (c := c) (k := 0) (n := m) (by omega) with ⟨e, -⟩ | ⟨us, m', rfl, e⟩
    · rw [e]
      refine ⟨fun b hb => ?_, fun b hb => ?_⟩
      · rcases List.mem_append.mp hb with hb | hb
        · exact i3 b hb
        · rw [List.mem_singleton.mp hb]; exact Nat.zero_le _
      · rcases List.mem_append.mp hb with hb | hb
        · have := i4 b hb; omega
        · rw [List.mem_singleton.mp hb]; show m ≤ z + m; omega
    · rw [e]
      have hz := i4 (c, 0, m') (by simp)
      simp only at hz
      refine ⟨fun b hb => ?_, fun b hb => ?_⟩
      · rcases List.mem_append.mp hb with hb | hb
        · exact i3 b (by simp [hb])
        · rw [List.mem_singleton.mp hb]; exact Nat.zero_le _
      · rcases List.mem_append.mp hb with hb | hb
        · have := i4 b (by simp [hb]); omega
        · rw [List.mem_singleton.mp hb]; show m' + m ≤ z + m; omega
  obtain ⟨a1, a2, a3, a4⟩ := key (c := 92) (m := n) h.inv h.len h.lev h.cnt (by omega) (by decide) h1
  obtain ⟨b1, b2, b3, b4⟩ := key (c := 34) (m := 1) a1 a2 a3 a4 (by omega) (by decide) (by omega)
  have e : addBs0 bs (addT n) = addB (addB bs 92 0 n) 34 0 1 := rfl
  rw [e]
  exact ⟨b1, by omega, b3, fun b hb => by have := b4 b hb; omega⟩
theorem cur_add {q : Nat} {ss : List Stp} {n : Int} (h : Cur q ss) (hq : q + 1 ≤ 20) (h1 : 1 ≤ n) (h5 : n ≤ 5) : Cur (q + 1) (ss ++ [addStp ss n]) := fun s hs => by
  rcases List.mem_append.mp hs with hs | hs
  · exact h.mono (Nat.le_succ q) s hs
  · rw [List.mem_singleton.mp hs]
    have l := h.lat
    have t := l.tx.add h1 h5 (smI_b (by omega) l.le)
    have p := pow_e (lat ss).2.2
    refine ⟨⟨t.mono (Nat.le_refl _) ?_, l.hi.add h1 h5, l.le⟩, .inl ⟨n, rfl, h1, h5⟩⟩
    show ((6 * q : Nat) : Int) * 2 ^ (lat ss).2.2 + 6 ≤ ((6 * (q + 1) : Nat) : Int) * 2 ^ (lat ss).2.2
    have e1 : (((6 * (q + 1) : Nat) : Int)) = ((6 * q : Nat) : Int) + 6 := by omega
    rw [e1, Int.add_mul]
    omega
def c_Builder_add_textV : Ctr := fun ρ Q _ => ∃ a b ss q, ∃ n : Int, ρ = [obB a b ss, .dat (.lst ((addT n).map runD))] ∧ Cur q ss ∧ q ≤ 20 ∧ ss.length ≤ 1000 ∧ 1 ≤ n ∧ n ≤ 5 ∧ Q (.dat .non) [obB a b (ss ++ [addStp ss n]), .dat (.lst ((addT n).map runD))]
def c_Builder_add_textX : Ctr := fun ρ _ Z => ∃ a b ss q v, ρ = [obB a b ss, .dat v] ∧ Cur q ss ∧ q ≤ 20 ∧ ss.length ≤ 1000 ∧ v.sok false = true ∧ v.wt ≤ 16777216 ∧ isTextD v = false ∧ Z ⟨"InvalidText", none⟩ [obB a b ss, .dat v]
def c_Builder_add_text : Ctr := orC c_Builder_add_textV c_Builder_add_textX
/-- Builder_add_text, slots ['self', 'text', 'before', 'history', 'escapes', 'after', 'blocks', 'own', 'run', 'symbol', 'count']; lends []; gives dat -/
def b_Builder_add_text : AS := sSeq (sAsg (aMethT "Builder" "latest" 1 c_Builder_latest 0 rNil) (agTup (agCons (agName 2) (agCons (agName 3) (agCons (agName 4) (agNil))))))
  (sSeq (sAsg (aDef c_y_appended [] (rDat (aVar 2) (rDat (aVar 1) (rNil)))) (agName 5))
  (sSeq (sSetO (oListA (aCons (aVar 3) (aNil))) 6)
  (sSeq (sAsg (aFrz (oLc (iAny (aVar 1)) (agName 8) (aYes) (aCall bTuple (aCons (aVar 8) (aNil))) [8])) (agName 7))
  (sSeq (sFor (iAny (aVar 7)) (agTup (agCons (agName 9) (agCons (agName 10) (agNil)))) (sDrop (aDef c_add_block [] (rIo 6 (rDat (aVar 9) (rDat (aC (.int 0)) (rDat (aVar 10) (rNil))))))))
  (sFApp 0 0 "Builder" "steps" (aTup (aCons (aTup (aCons (aC (.str "append")) (aCons (aVar 7) (aNil)))) (aCons (aVar 5) (aCons (aVar 6) (aCons (aVar 4) (aNil)))))))))))
theorem p_Builder_add_text : Sat 2 11 b_Builder_add_text c_Builder_add_text := sat_or (by
  intro ρ Q Z hl h
  obtain ⟨a, b, ss, q, n, rfl, hc, hq20, hl2, h1, h5, hq⟩ := h
  have la := hc.lat
  have t1 := la.tx.len
  have hb := la.hi.len
  have ta := addT_ok h1 h5
  unfold b_Builder_add_text
  refine seq_hide fun u hu => ?_
  simp [endsA, -q_aMethT]
  refine run_latest hc hq20 hl2 ?_
  unfold latD
  simp
  subst hu
  refine seq_hide fun u hu => ?_
  simp
  refine .inl ⟨_, _, _, _, rfl, la.tx.ok.isTx, ta.isTx, by omega, by show (2 : Nat) ≤ 8000; decide, ?_⟩
  simp
  subst hu
  refine seq_hide fun u hu => ?_
  simp
  subst hu
  refine seq_hide fun u hu => ?_
  simp
  refine comp_map (fun d => d) (by rw [List.length_map, size16]; show (2 : Nat) ≤ _; decide) ?_ ?_
  · intro d hd X hX
    obtain ⟨x, hx, rfl⟩ := List.mem_map.mp hd
    simp [runD] at hX ⊢
    exact hX
  · rw [List.map_id']
    simp
    subst hu
    refine seq_hide fun u hu => ?_
    simp
    show aLoop _ _ _ [.tup [.str (sgn 92), .int n], .tup [.str (sgn 34), .int 1]] _
    unfold aLoop
    simp
    obtain ⟨j1, j2, -⟩ := addB_inv (n := n) la.hi.inv (show symC 92 by decide) (Nat.zero_le 200)
    refine ⟨_, 92, 0, n, rfl, la.hi.inv, by decide, by decide, by omega, ?_⟩
    simp
    unfold aLoop
    simp
    refine ⟨_, 34, 0, 1, rfl, j1, by decide, by decide, by omega, ?_⟩
    simp
    unfold aLoop
    simp
    subst hu
    rw [obB_lst, List.map_append, List.map_singleton] at hq
    rw [obB_lst]
    have hll : (ss.map stpD).length = ss.length := List.length_map ..
    generalize ss.map stpD = xs at hq hll ⊢
    simp
    refine ⟨b, ⟨rfl, xs, rfl⟩, xs, ⟨rfl, rfl⟩, by omega, ?_⟩
    have e2 : addBs0 (lat ss).2.1 (addT n) = addB (addB (lat ss).2.1 92 0 n) 34 0 1 := rfl
    simpa [stpD, addStp, e2] using hq) (by
  intro ρ Q Z hl h
  obtain ⟨a, b, ss, q, v, rfl, hc, hq20, hl2, hv, hw, hi, hz⟩ := h
  have la := hc.lat
  have t1 := la.tx.len
  unfold b_Builder_add_text
  refine seq_hide fun u hu => ?_
  simp [endsA, -q_aMethT]
  refine run_latest hc hq20 hl2 ?_
  unfold latD
  simp
  subst hu
  refine seq_hide fun u hu => ?_
  simp
  refine .inr ⟨_, _, _, rfl, la.tx.ok.isTx, by omega, hv, hw, hi, ?_⟩
  simp
  exact hz)
/-! ### the table of bad texts (k52) -/
def tabC (L : List D) : Ctr := fun ρ Q _ => ∃ b r, ρ = [.own true r] ∧ Spr (b + 1) r ∧ ∀ r' v, Spr b r' → v ∈ L → Q (.dat v) [.own true r']
def badT : List D := [.non, .int 0, .str "ab", .dic, .lst [.non], .lst [.tup [.str "a", .int 0]], .lst [.tup [.str "ab", .int 1]], .lst [.tup [.str "", .int 1]], .lst [.tup [.str "a", .bl true]], .lst [.tup [.str "a", .int 1], .tup [.str "a", .int 1]], .bl true,
  .lst [.tup [.str "a"]], .lst [.tup [.str "a", .int 1, .int 1]], .tup [.str "a", .int 1], .lst [.tup [.str "\n", .int 1]], .lst [.tup [.int 1, .int 1]], .lst [.tup [.str "a", .str "1"]], .lst [.tup [.str "a", .int (-1)]], .lst [.str "a"], .lst [.tup [.str "\t", .int 1]], .lst [.tup [.non, .int 1]]]
def c_q_bad_text : Ctr := tabC badT
theorem ix_mem {L : List D} {k : Int} (h0 : 0 ≤ k) (h1 : k < L.length) : ∃ d, atI L k = some d ∧ d ∈ L := by
  obtain ⟨n, rfl⟩ : ∃ n : Nat, k = n := ⟨k.toNat, by omega⟩
  have hn : n < L.length := by omega
  exact ⟨L[n], atI_nat.trans (List.getElem?_eq_getElem hn), List.getElem_mem hn⟩
/-- q_bad_text, slots ['l_spring_here', 'l_some']; lends ['l_spring_here']; gives dat -/
def b_q_bad_text : AS := sSeq (sAsg (aFrz (oLst (aCons (aC .non) (aCons (aC (.int 0)) (aCons (aC (.str "ab")) (aCons (aDic) (aCons (aFrz (oLst (aCons (aC .non) (aNil)))) (aCons (aFrz (oLst (aCons (aTup (aCons (aC (.str "a")) (aCons (aC (.int 0)) (aNil)))) (aNil)))) (aCons (aFrz (oLst (aCons (aTup (aCons (aC (.str "ab")) (aCons (aC (.int 1)) (aNil)))) (aNil)))) (aCons (aFrz (oLst (aCons (aTup (aCons (aC (.str "")) (aCons (aC (.int 1)) (aNil)))) (aNil)))) (aCons (aFrz (oLst (aCons (aTup (aCons (aC (.str "a")) (aCons (aC (.bl true)) (aNil)))) (aNil)))) (aCons (aFrz (oLst (aCons (aTup (aCons (aC (.str "a")) (aCons (aC (.int 1)) (aNil)))) (aCons (aTup (aCons (aC (.str "a")) (aCons (aC (.int 1)) (aNil)))) (aNil))))) (aCons (aC (.bl true)) (aNil)))))))))))))) (agName 1))
  (sSeq (sAsg (aOp bAddB (aVar 1) (aFrz (oLst (aCons (aFrz (oLst (aCons (aTup (aCons (aC (.str "a")) (aNil))) (aNil)))) (aCons (aFrz (oLst (aCons (aTup (aCons (aC (.str "a")) (aCons (aC (.int 1)) (aCons (aC (.int 1)) (aNil))))) (aNil)))) (aCons (aTup (aCons (aC (.str "a")) (aCons (aC (.int 1)) (aNil)))) (aCons (aFrz (oLst (aCons (aTup (aCons (aC (.str "\n")) (aCons (aC (.int 1)) (aNil)))) (aNil)))) (aCons (aFrz (oLst (aCons (aTup (aCons (aC (.int 1)) (aCons (aC (.int 1)) (aNil)))) (aNil)))) (aCons (aFrz (oLst (aCons (aTup (aCons (aC (.str "a")) (aCons (aC (.str "1")) (aNil)))) (aNil)))) (aCons (aFrz (oLst (aCons (aTup (aCons (aC (.str "a")) (aCons (aUn bNeg (aC (.int 1))) (aNil)))) (aNil)))) (aCons (aFrz (oLst (aCons (aC (.str "a")) (aNil)))) (aNil)))))))))))) (agName 1))
  (sRet (aOp bIx (aOp bAddB (aVar 1) (aFrz (oLst (aCons (aFrz (oLst (aCons (aTup (aCons (aC (.str "\t")) (aCons (aC (.int 1)) (aNil)))) (aNil)))) (aCons (aFrz (oLst (aCons (aTup (aCons (aC .non) (aCons (aC (.int 1)) (aNil)))) (aNil)))) (aNil)))))) (aDef c_s_draw [] (rIo 0 (rDat (aC (.int 21)) (rNil)))))))
theorem p_q_bad_text : Sat 1 2 b_q_bad_text c_q_bad_text := by
  intro ρ Q Z hl h
  obtain ⟨b, r, rfl, hr, hq⟩ := h
  unfold b_q_bad_text
  simp [endsA]
  refine ⟨b, r, 21, rfl, hr, cdivW_of (by omega) (by omega), fun r1 k hr1 hk0 hk1 => ?_⟩
  obtain ⟨d, e1, e2⟩ := ix_mem (L := badT) hk0 hk1
  simp
  exact ⟨d, e1, hq r1 d hr1 e2⟩
theorem badT_ok : ∀ v ∈ badT, isTextD v = false ∧ v.sok false = true ∧ v.wt ≤ 16777216 := by decide +kernel
/-! ### what a question answers -/
inductive AskR : Int → List Stp → D → Str → List Stp → Prop
  | t0 {ss v} : v.sok false = true → v.wt ≤ 16777216 → isTextD v = false → AskR 0 ss v "InvalidText" ss
  | n1 {ss} {v : D} : v.noObj → isIntD v 0 (.int (200 - (lat ss).2.2)) = false → AskR 1 ss v "InvalidNumber" ss
  | e1 {ss} {n : Nat} : (lat ss).2.2 + n ≤ 200 → AskR 1 ss (.int n) "none" (ss ++ [escStp ss n])
  | n2 {ss} {v : D} : v.noObj → isIntD v 0 (.int (ss.length : Nat)) = false → AskR 2 ss v "InvalidNumber" ss
  | s2 {ss} {v : D} : v.noObj → isIntD v 0 (.int (ss.length : Nat)) = true → AskR 2 ss v "none" ss
  | u3 {ss s v} : AskR 3 (ss ++ [s]) v "none" ss
  | x3 {v} : AskR 3 [] v "NothingToUndo" []
def c_l_asked : Ctr := fun ρ Q _ => ∃ k a b ss q v r ss', ρ = [.dat (.int k), obB a b ss, .dat v] ∧ Cur q ss ∧ q ≤ 20 ∧ ss.length ≤ 1000 ∧ AskR k ss v r ss' ∧ Q (.dat (.str r)) [.dat (.int k), obB a b ss', .dat v]
theorem clsN_3 : clsN "InvalidText" = "InvalidText" ∧ clsN "InvalidNumber" = "InvalidNumber" ∧ clsN "NothingToUndo" = "NothingToUndo" := by decide +kernel
/-- l_asked, slots ['l_ask', 'l_builder', 'l_value', 'l_caught', 'e']; lends []; gives dat -/
def b_l_asked : AS := sSeq (sAsg (aC .non) (agName 3))
  (sSeq (sTryAs 4 cl_SlashError (sIf (tCmpV bEq (vVar 0) (vC (.int 0))) (sDrop (aMethT "Builder" "add_text" 2 c_Builder_add_text 1 (rDat (aVar 2) (rNil)))) (sIf (tCmpV bEq (vVar 0) (vC (.int 1))) (sDrop (aMethT "Builder" "escape_all" 2 c_Builder_escape_all 1 (rDat (aVar 2) (rNil)))) (sIf (tCmpV bEq (vVar 0) (vC (.int 2))) (sDrop (aMethT "Builder" "state_after" 2 c_Builder_state_after 1 (rDat (aVar 2) (rNil)))) (sDrop (aMethT "Builder" "undo" 1 c_Builder_undo 1 rNil))))) (sAsg (aVar 4) (agName 3)))
  (sRet (aIfE (tCmpV bIsN (vVar 3) (vC .non)) (aC (.str "none")) (aDef c_l_class [] (rDat (aVar 3) (rNil))))))
theorem p_l_asked : Sat 3 5 b_l_asked c_l_asked := by
  intro ρ Q Z hl h
  obtain ⟨k, a, b, ss, q, v, r, ss', rfl, hc, hq20, hl2, hr, hq⟩ := h
  obtain ⟨k1, k2, k3⟩ := clsN_3
  unfold b_l_asked
  refine seq_hide fun u hu => ?_
  simp [endsA]
  subst hu
  refine seq_hide fun u hu => ?_
  have n1 : ¬ Str.ofString "add_text" = Str.ofString "steps" := by decide +kernel
  have n2 : ¬ Str.ofString "escape_all" = Str.ofString "steps" := by decide +kernel
  have n3 : ¬ Str.ofString "state_after" = Str.ofString "steps" := by decide +kernel
  have n4 : ¬ Str.ofString "undo" = Str.ofString "steps" := by decide +kernel
  cases hr with
  | t0 a1 a2 a3 =>
    rw [obB_lst] at hq ⊢
    simp [n1, n2, n3, n4]
    refine .inr ⟨a, b, ss, q, v, by simp [obB_lst], hc, hq20, hl2, a1, a2, a3, ?_⟩
    simp [obB_lst]
    rw [q_kTryX (b := true) (by decide +kernel)]
    simp
    subst hu
    simp
    refine ⟨⟨"InvalidText", none⟩, rfl, by decide +kernel, ?_⟩
    simpa [k1, k2, k3] using hq
  | n1 a1 a2 =>
    rw [obB_lst] at hq ⊢
    simp [n1, n2, n3, n4]
    refine .inr ⟨a, b, ss, q, v, by simp [obB_lst], hc, hq20, hl2, a1, a2, ?_⟩
    simp [obB_lst]
    rw [q_kTryX (b := true) (by decide +kernel)]
    simp
    subst hu
    simp
    refine ⟨⟨"InvalidNumber", none⟩, rfl, by decide +kernel, ?_⟩
    simpa [k1, k2, k3] using hq
  | e1 a1 =>
    rw [obB_lst] at hq ⊢
    simp [n1, n2, n3, n4]
    refine .inl ⟨a, b, ss, q, _, by simp [obB_lst], hc, hq20, hl2, a1, ?_⟩
    subst hu
    simp [obB_lst]
    simpa using hq
  | n2 a1 a2 =>
    rw [obB_lst] at hq ⊢
    simp [n1, n2, n3, n4]
    refine .inr ⟨a, b, ss, q, v, by simp [obB_lst], hc, hq20, hl2, a1, a2, ?_⟩
    simp [obB_lst]
    rw [q_kTryX (b := true) (by decide +kernel)]
    simp
    subst hu
    simp
    refine ⟨⟨"InvalidNumber", none⟩, rfl, by decide +kernel, ?_⟩
    simpa [k1, k2, k3] using hq
  | s2 a1 a2 =>
    rw [obB_lst] at hq ⊢
    simp [n1, n2, n3, n4]
    refine .inl ⟨a, b, ss, q, v, by simp [obB_lst], hc, hq20, hl2, a1, a2, fun d => ?_⟩
    subst hu
    simp [obB_lst]
    simpa using hq
  | u3 =>
    rw [obB_lst] at hq ⊢
    simp [n1, n2, n3, n4]
    refine .inl ⟨a, b, _, _, q, by simp [obB_lst], hc, hq20, ?_⟩
    subst hu
    simp [obB_lst]
    simpa using hq
  | x3 =>
    rw [obB_lst] at hq ⊢
    simp [n1, n2, n3, n4]
    refine .inr ⟨a, b, by simp [obB_lst], ?_⟩
    simp [obB_lst]
    rw [q_kTryX (b := true) (by decide +kernel)]
    simp
    subst hu
    simp
    refine ⟨⟨"NothingToUndo", none⟩, rfl, by decide +kernel, ?_⟩
    simpa [k1, k2, k3] using hq
/-! ### the law of k52 -/
theorem rng_cons {lo : Int} {n : Nat} : rangeD lo (n + 1) = .int lo :: rangeD (lo + 1) n := by
  unfold rangeD
  rw [List.range_succ_eq_map]
  simp
  intro a _
  omega
theorem badT_wt : ∀ v ∈ badT, v.wt ≤ 100000 ∧ v.dep ≤ 10 := by decide +kernel
def allD (v : D) (ss : List Stp) : D := .lst [v, .lst (ss.map fun x => x.op), .lst ((lat ss).1.map runD), .lst ((lat ss).2.1.map blkD)]
theorem sh52 {v : D} {ss : List Stp} {q : Nat} (hv : v ∈ badT) (h : Cur q ss) (hq : q ≤ 20) (hl : ss.length ≤ 100) : (allD v ss).shOk := by
  obtain ⟨-, v1, -⟩ := badT_ok v hv
  obtain ⟨v2, v3⟩ := badT_wt v hv
  obtain ⟨a1, a2, a3, a4, a5, a6⟩ := h.lat.m (nd := false) hq
  have o1 : D.sokL false (ss.map fun x => x.op) = true := by
    rw [sokL_iff]
    intro d hd
    obtain ⟨s, hs, rfl⟩ := List.mem_map.mp hd
    exact ((h s hs).opk.m).1
  have o2 := wtL_le (k := 10000) (xs := ss.map fun x => x.op) (fun d hd => by
    obtain ⟨s, hs, rfl⟩ := List.mem_map.mp hd
    exact ((h s hs).opk.m (nd := false)).2.1)
  have o3 : D.depL (ss.map fun x => x.op) ≤ 3 := by
    rw [depL_le]
    intro d hd
    obtain ⟨s, hs, rfl⟩ := List.mem_map.mp hd
    exact ((h s hs).opk.m (nd := false)).2.2
  rw [List.length_map] at o2
  have o4 : (10000 + 2) * ss.length ≤ 1000200 := Nat.mul_le_mul (Nat.le_refl 10002) hl
  refine shOk_of ?_ ?_ ?_
  · unfold allD
    rw [D.sok, D.sokL, D.sokL, D.sokL, D.sokL, D.sokL, v1, a1, a4, D.sok, o1]
    rfl
  · unfold allD
    rw [D.wt, D.wtL, D.wtL, D.wtL, D.wtL, D.wtL]
    have : (D.lst (ss.map fun x => x.op)).wt = D.wtL (ss.map fun x => x.op) + 3 := by rw [D.wt]
    omega
  · unfold allD
    rw [D.dep, D.depL, D.depL, D.depL, D.depL, D.depL]
    have : (D.lst (ss.map fun x => x.op)).dep = D.depL (ss.map fun x => x.op) + 1 := by rw [D.dep]
    omega
theorem fob {a b : Addr} {ss : List Stp} : Sv.tre (.ob a "Builder" ["steps"] [.lst b (List.map (Tr.leaf ∘ stpD) ss)]) = obB a b ss := by simp [obB_lst]
theorem fob1 {a b : Addr} {ss : List Stp} {s : Stp} : Sv.tre (.ob a "Builder" ["steps"] [.lst b (List.map (Tr.leaf ∘ stpD) ss ++ [Tr.leaf (stpD s)])]) = obB a b (ss ++ [s]) := by simp [obB_lst]
/-- law, slots ['l_script', 'l_spring_here', 'l_turn', 'l_builder', 'l_escapes', 'l_move', 'l_more', 'l_bad', 'l_odd', 'l_spot', 'l_rows', 'l_before', 'l_ask', 'l_value', 'l_due']; lends []; gives dat -/
def b_law : AS := sSeq (sSetO (oDef c_l_spring [] (rDat (aVar 0) (rNil))) 1)
  (sSeq (sIf (aNot (aTr (aDef c_l_classes_right [] rNil))) (sRet (aC (.bl false))) (sNx))
  (sSeq (sFor (iRange1 (aCons (aOp bAddB (aC (.int 2)) (aCall bMin (aCons (aCall bLen (aCons (aVar 0) (aNil))) (aCons (aC (.int 6)) (aNil))))) (aNil))) (agName 2) (sSeq (sMkD "Builder" c_Builder_init 3 4 (aC (.int 0)))
  (sSeq (sFor (iRange1 (aCons (aDef c_s_draw [] (rIo 1 (rDat (aC (.int 10)) (rNil)))) (aNil))) (agName 5) (sIf (tCmpE bEq (aDef c_s_draw [] (rIo 1 (rDat (aC (.int 2)) (rNil)))) (aC (.int 0))) (sDrop (aMethT "Builder" "add_text" 2 c_Builder_add_text 3 (rDat (aFrz (oLst (aCons (aTup (aCons (aC (.str "\\")) (aCons (aOp bAddB (aC (.int 1)) (aDef c_s_draw [] (rIo 1 (rDat (aC (.int 5)) (rNil))))) (aNil)))) (aCons (aTup (aCons (aC (.str "\"")) (aCons (aC (.int 1)) (aNil)))) (aNil))))) (rNil)))) (sSeq (sAsg (aDef c_s_draw [] (rIo 1 (rDat (aOp bIx (aFrz (oLst (aCons (aC (.int 3)) (aCons (aOp bSub (aC (.int 201)) (aVar 4)) (aNil))))) (aDef c_s_draw [] (rIo 1 (rDat (aC (.int 2)) (rNil))))) (rNil)))) (agName 6))
  (sSeq (sAsg (aCall bMin (aCons (aVar 6) (aCons (aOp bSub (aC (.int 200)) (aVar 4)) (aNil)))) (agName 6))
  (sSeq (sDrop (aMethT "Builder" "escape_all" 2 c_Builder_escape_all 3 (rDat (aVar 6) (rNil))))
  (sAsg (aOp bAddB (aVar 4) (aVar 6)) (agName 4)))))))
  (sSeq (sAsg (aDef c_q_bad_text [] (rIo 1 (rNil))) (agName 7))
  (sSeq (sAsg (aOp bIx (aFrz (oLst (aCons (aUn bNeg (aC (.int 1))) (aCons (aOp bSub (aC (.int 201)) (aVar 4)) (aCons (aC (.int 201)) (aCons (aC .non) (aCons (aC (.bl true)) (aCons (aC (.str "1")) (aCons (aFrz (oLst (aCons (aC (.int 1)) (aNil)))) (aCons (aOp bPow (aC (.int 10)) (aC (.int 60))) (aCons (aC (.bl false)) (aNil)))))))))))) (aDef c_s_draw [] (rIo 1 (rDat (aC (.int 9)) (rNil))))) (agName 8))
  (sSeq (sAsg (aOp bIx (aFrz (oLst (aCons (aUn bNeg (aC (.int 1))) (aCons (aOp bAddB (aLenT "Builder" c_Builder___len__ 3) (aC (.int 1))) (aCons (aC .non) (aCons (aC (.bl true)) (aCons (aC (.str "0")) (aCons (aOp bPow (aC (.int 10)) (aC (.int 60))) (aCons (aC (.bl false)) (aNil)))))))))) (aDef c_s_draw [] (rIo 1 (rDat (aC (.int 7)) (rNil))))) (agName 9))
  (sSeq (sAsg (aFrz (oLst (aCons (aTup (aCons (aC (.int 0)) (aCons (aVar 7) (aCons (aC (.str "InvalidText")) (aNil))))) (aCons (aTup (aCons (aC (.int 1)) (aCons (aVar 8) (aCons (aC (.str "InvalidNumber")) (aNil))))) (aCons (aTup (aCons (aC (.int 2)) (aCons (aVar 9) (aCons (aC (.str "InvalidNumber")) (aNil))))) (aNil)))))) (agName 10))
  (sSeq (sAsg (aOp bAddB (aVar 10) (aFrz (oLst (aCons (aTup (aCons (aC (.int 2)) (aCons (aC (.int 0)) (aCons (aC (.str "none")) (aNil))))) (aCons (aTup (aCons (aC (.int 2)) (aCons (aLenT "Builder" c_Builder___len__ 3) (aCons (aC (.str "none")) (aNil))))) (aNil)))))) (agName 10))
  (sSeq (sAsg (aCall bRepr (aCons (aFrz (oLst (aCons (aVar 7) (aCons (aMethT "Builder" "operations" 1 c_Builder_operations 3 rNil) (aCons (aMethT "Builder" "current_text" 1 c_Builder_current_text 3 rNil) (aCons (aMethT "Builder" "current_history" 1 c_Builder_current_history 3 rNil) (aNil))))))) (aNil))) (agName 11))
  (sSeq (sFor (iAny (aVar 10)) (agTup (agCons (agName 12) (agCons (agName 13) (agCons (agName 14) (agNil))))) (sIf (tCmpE bNe (aDefT c_l_asked [] 1 3 (rDat (aVar 12) (rTr 3 (rDat (aVar 13) (rNil))))) (aVar 14)) (sRet (aC (.bl false))) (sNx)))
  (sSeq (sIf (tCmpE bNe (aCall bRepr (aCons (aFrz (oLst (aCons (aVar 7) (aCons (aMethT "Builder" "operations" 1 c_Builder_operations 3 rNil) (aCons (aMethT "Builder" "current_text" 1 c_Builder_current_text 3 rNil) (aCons (aMethT "Builder" "current_history" 1 c_Builder_current_history 3 rNil) (aNil))))))) (aNil))) (aVar 11)) (sRet (aC (.bl false))) (sNx))
  (sSeq (sIf (aOr (tCmpE bNe (aDefT c_l_asked [] 1 3 (rDat (aC (.int 1)) (rTr 3 (rDat (aOp bSub (aC (.int 200)) (aVar 4)) (rNil))))) (aC (.str "none"))) (tCmpE bNe (aMethT "Builder" "escape_count" 1 c_Builder_escape_count 3 rNil) (aC (.int 200)))) (sRet (aC (.bl false))) (sNx))
  (sSeq (sIf (aOr (tCmpE bNe (aDefT c_l_asked [] 1 3 (rDat (aC (.int 1)) (rTr 3 (rDat (aC (.int 1)) (rNil))))) (aC (.str "InvalidNumber"))) (tCmpE bNe (aDefT c_l_asked [] 1 3 (rDat (aC (.int 1)) (rTr 3 (rDat (aC (.int 0)) (rNil))))) (aC (.str "none")))) (sRet (aC (.bl false))) (sNx))
  (sSeq (sWhile (tCmpE bGt (aLenT "Builder" c_Builder___len__ 3) (aC (.int 0))) (sIf (tCmpE bNe (aDefT c_l_asked [] 1 3 (rDat (aC (.int 3)) (rTr 3 (rDat (aC (.int 0)) (rNil))))) (aC (.str "none"))) (sRet (aC (.bl false))) (sNx)))
  (sIf (aOr (tCmpE bNe (aDefT c_l_asked [] 1 3 (rDat (aC (.int 3)) (rTr 3 (rDat (aC (.int 0)) (rNil))))) (aC (.str "NothingToUndo"))) (aOr (tCmpE bNe (aMethT "Builder" "current_text" 1 c_Builder_current_text 3 rNil) (aFrz (oLst (aNil)))) (tCmpE bNe (aLenT "Builder" c_Builder___len__ 3) (aC (.int 0))))) (sRet (aC (.bl false))) (sNx))))))))))))))))
  (sRet (aC (.bl true)))))
theorem p_law : Sat 1 15 b_law lawC := by
  intro ρ Q Z hl h
  have m1 : ¬ Str.ofString "add_text" = Str.ofString "steps" := by decide +kernel
  have m2 : ¬ Str.ofString "escape_all" = Str.ofString "steps" := by decide +kernel
  have m3 : ¬ Str.ofString "operations" = Str.ofString "steps" := by decide +kernel
  have m4 : ¬ Str.ofString "current_text" = Str.ofString "steps" := by decide +kernel
  have m5 : ¬ Str.ofString "current_history" = Str.ofString "steps" := by decide +kernel
  have m6 : ¬ Str.ofString "escape_count" = Str.ofString "steps" := by decide +kernel
  have m7 : ¬ Str.ofString "__len__" = Str.ofString "steps" := by decide +kernel
  obtain ⟨ns, hn, rfl, hq⟩ := h
  unfold b_law
  refine seq_hide fun u0 hu0 => ?_
  simp [endsA]
  refine ⟨ns, rfl, hn, fun r hr => ?_⟩
  simp
  subst hu0
  refine seq_hide fun u0 hu0 => ?_
  simp
  refine ⟨rfl, ?_⟩
  simp
  subst hu0
  refine seq_hide fun u0 hu0 => ?_
  simp
  obtain ⟨n, hN, hn8⟩ : ∃ n : Nat, ((2 : Int) + if 6 < (ns.length : Int) then 6 else (ns.length : Int)) = n ∧ n ≤ 10 := by
    by_cases h : 6 < (ns.length : Int)
    · exact ⟨8, by rw [if_pos h]; rfl, by omega⟩
    · exact ⟨2 + ns.length, by rw [if_neg h]; simp, by omega⟩
  rw [hN]
  refine ⟨by omega, by omega, ?_⟩
  rw [Int.toNat_natCast]
  refine loop_of (fun ds ρ' => ∃ (r' : List D) (i j : Nat) (v2 v3 v4 v5 v6 v7 v8 v9 v10 v11 v12 v13 v14 : Sv), j ≤ 10 ∧ ds = rangeD (i : Int) j ∧ Spr (1000 * j) r' ∧ ρ' = [.dat (.lst (ns.map .int)), .own false r', v2, v3, v4, v5, v6, v7, v8, v9, v10, v11, v12, v13, v14] ∧ noV v2 ∧ okV v3 ∧ noV v4 ∧ noV v5 ∧ noV v6 ∧ noV v7 ∧ noV v8 ∧ noV v9 ∧ noV v10 ∧ noV v11 ∧ noV v12 ∧ noV v13 ∧ noV v14) ?_ ?_ _ _ ⟨r, 0, n, .un, .un, .un, .un, .un, .un, .un, .un, .un, .un, .un, .un, .un, by omega, rfl, hr.mono (by omega), rfl, trivial, trivial, trivial, trivial, trivial, trivial, trivial, trivial, trivial, trivial, trivial, trivial, trivial⟩
  · rintro ρ' ⟨r', i, j, v2, v3, v4, v5, v6, v7, v8, v9, v10, v11, v12, v13, v14, h1, h2, h3, rfl, -⟩
    subst hu0
    simp
    exact hq _
  · clear hr
    rintro d ds ρ' X ⟨r', i, j, v2, v3, v4, v5, v6, v7, v8, v9, v10, v11, v12, v13, v14, h1, h2, h3, rfl, n2, o3, n4, n5, n6, n7, n8, n9, n10, n11, n12, n13, n14⟩ hX
    cases j with
    | zero => cases h2
    | succ j =>
      rw [rng_cons] at h2
      obtain ⟨rfl, rfl⟩ : d = .int (i : Int) ∧ ds = rangeD ((i : Int) + 1) j := by simpa using h2
      simp [okV_of n2, -q_sSeq]
      refine seq_hide fun u1 hu1 => ?_
      simp
      intro a
      refine ⟨a, rfl, fun b => ?_⟩
      rw [obB_lst]
      simp [o3, okV_of n4]
      rw [show Sv.tre (Tr.ob a (Str.ofString "Builder") [Str.ofString "steps"] [Tr.lst b []]) = obB a b [] from rfl]
      subst hu1
      refine seq_hide fun u1 hu1 => ?_
      simp
      obtain ⟨B, hB⟩ : ∃ B, B = 1000 * j := ⟨_, rfl⟩
      refine ⟨B + 900, r', 10, rfl, h3.mono (by omega), cdivW_of (by omega) (by omega), fun r1 k1 hr1 hk0 hk1 => ?_⟩
      simp
      refine ⟨by omega, by omega, ?_⟩
      obtain ⟨k1, rfl⟩ : ∃ m : Nat, k1 = m := ⟨k1.toNat, by omega⟩
      rw [Int.toNat_natCast]
      refine loop_of (fun ds ρ' => ∃ (r' : List D) (i' j' : Nat) (ss : List Stp) (q : Nat) (v5 v6 : Sv), i' + j' ≤ 10 ∧ ds = rangeD (i' : Int) j' ∧ Spr (B + 800 + 5 * j') r' ∧ ρ' = [.dat (.lst (ns.map .int)), .own false r', .dat (.int (i : Nat)), obB a b ss, .dat (.int ((lat ss).2.2 : Nat)), v5, v6, v7, v8, v9, v10, v11, v12, v13, v14] ∧ Cur q ss ∧ q ≤ i' ∧ ss.length ≤ i' ∧ noV v5 ∧ noV v6) ?_ ?_ _ _ ⟨r1, 0, k1, [], 0, v5, v6, by omega, rfl, hr1.mono (by omega), rfl, (by intro s hs; cases hs), by omega, by simp, n5, n6⟩
      · rintro ρ' ⟨r2, i', j', ss, q, v5, v6, g1, g2, g3, rfl, g4, g5, g6, n5, n6⟩
        have gj : j' = 0 := by
          cases j' with
          | succ j' => rw [rng_cons] at g2; cases g2
          | zero => rfl
        subst gj
        clear g2 hk1 hr1
        subst hu1
        have la := g4.lat
        have le := la.le
        have hq10 : q ≤ 10 := by omega
        have hs10 : ss.length ≤ 10 := by omega
        clear g1 g5 g6
        dsimp only
        refine seq_hide fun u1 hu1 => ?_
        simp
        refine ⟨B + 799, r2, rfl, g3.mono (by omega), fun r3 vb hr3 hvb => ?_⟩
        simp [okV_of n7]
        subst hu1
        refine seq_hide fun u1 hu1 => ?_
        simp
        refine ⟨B + 798, r3, 9, rfl, hr3.mono (by omega), cdivW_of (by omega) (by omega), fun r4 k2 hr4 hk20 hk21 => ?_⟩
        simp
        obtain ⟨o, eo, ho⟩ := ix_mem (L := [D.int (-1), D.int (201 - ((lat ss).2.2 : Nat)), D.int 201, D.non, D.bl true, D.str (Str.ofString "1"), D.lst [D.int 1], D.int 1000000000000000000000000000000000000000000000000000000000000, D.bl false]) (k := k2) hk20 (by simpa using hk21)
        have hoo : o.noObj ∧ isIntD o 0 (.int (200 - ((lat ss).2.2 : Nat))) = false := by
          simp only [List.mem_cons, List.not_mem_nil, or_false] at ho
          rcases ho with rfl | rfl | rfl | rfl | rfl | rfl | rfl | rfl | rfl <;> refine ⟨trivial, ?_⟩ <;> simp [isIntD] <;> omega
        refine ⟨o, eo, okV_of n8, ?_⟩
        subst hu1
        refine seq_hide fun u1 hu1 => ?_
        rw [obB_lst]
        simp [m7]
        refine ⟨a, b, ss, by rw [fob], ?_⟩
        simp [obB_lst]
        rw [fob]
        refine ⟨by omega, B + 797, r4, 7, rfl, hr4.mono (by omega), cdivW_of (by omega) (by omega), fun r5 k3 hr5 hk30 hk31 => ?_⟩
        simp
        obtain ⟨p, ep, hp⟩ := ix_mem (L := [D.int (-1), D.int ((ss.length : Nat) + 1), D.non, D.bl true, D.str (Str.ofString "0"), D.int 1000000000000000000000000000000000000000000000000000000000000, D.bl false]) (k := k3) hk30 (by simpa using hk31)
        have hpp : p.noObj ∧ isIntD p 0 (.int (ss.length : Nat)) = false := by
          simp only [List.mem_cons, List.not_mem_nil, or_false] at hp
          rcases hp with rfl | rfl | rfl | rfl | rfl | rfl | rfl <;> refine ⟨trivial, ?_⟩ <;> simp [isIntD] <;> omega
        refine ⟨p, ep, okV_of n9, ?_⟩
        subst hu1
        refine seq_hide fun u1 hu1 => ?_
        simp [okV_of n10]
        subst hu1
        refine seq_hide fun u1 hu1 => ?_
        rw [obB_lst]
        simp [m7]
        refine ⟨a, b, ss, by rw [fob], ?_⟩
        simp [obB_lst]
        rw [fob]
        subst hu1
        refine ⟨by omega, ?_⟩
        refine seq_hide fun u1 hu1 => ?_
        rw [obB_lst]
        simp [m3]
        refine ⟨a, b, ss, q, by rw [fob], g4, by omega, by omega, ?_⟩
        simp [obB_lst, m4]
        refine ⟨a, b, ss, q, by rw [fob], g4, by omega, by omega, ?_⟩
        simp [obB_lst, m5]
        refine ⟨a, b, ss, q, by rw [fob], g4, by omega, by omega, ?_⟩
        simp [obB_lst]
        rw [fob]
        refine ⟨sh52 hvb g4 (by omega) (by omega), okV_of n11, ?_⟩
        generalize hS : (D.lst [vb, D.lst (List.map (fun x => x.op) ss), D.lst (List.map runD (lat ss).fst), D.lst (List.map blkD (lat ss).snd.fst)]).py.shown = S
        subst hu1
        refine seq_hide fun u1 hu1 => ?_
        simp
        refine loop_of (fun ds ρ' => ∃ v12 v13 v14 : Sv, (∀ d ∈ ds, ∃ k v r, d = .tup [.int k, v, .str r] ∧ AskR k ss v r ss) ∧ ρ' = [.dat (.lst (ns.map .int)), .own false r5, .dat (.int (i : Nat)), obB a b ss, .dat (.int ((lat ss).2.2 : Nat)), v5, v6, .dat vb, .dat o, .dat p, .dat (.lst [D.tup [D.int 0, vb, D.str (Str.ofString "InvalidText")], D.tup [D.int 1, o, D.str (Str.ofString "InvalidNumber")], D.tup [D.int 2, p, D.str (Str.ofString "InvalidNumber")], D.tup [D.int 2, D.int 0, D.str (Str.ofString "none")], D.tup [D.int 2, D.int ss.length, D.str (Str.ofString "none")]]), .dat (.str S), v12, v13, v14] ∧ noV v12 ∧ noV v13 ∧ noV v14) ?_ ?_ _ _ ⟨v12, v13, v14, ?_, rfl, n12, n13, n14⟩
        · clear n12 n13 n14 v12 v13 v14
          rintro ρ' ⟨v12, v13, v14, -, rfl, n12, n13, n14⟩
          subst hu1
          dsimp only
          refine seq_hide fun u1 hu1 => ?_
          rw [obB_lst]
          simp [m3]
          refine ⟨a, b, ss, q, by rw [fob], g4, by omega, by omega, ?_⟩
          simp [obB_lst, m4]
          refine ⟨a, b, ss, q, by rw [fob], g4, by omega, by omega, ?_⟩
          simp [obB_lst, m5]
          refine ⟨a, b, ss, q, by rw [fob], g4, by omega, by omega, ?_⟩
          simp [obB_lst]
          rw [fob, hS]
          refine ⟨sh52 hvb g4 (by omega) (by omega), ?_⟩
          refine .inl ⟨rfl, ?_⟩
          subst hu1
          refine seq_hide fun u1 hu1 => ?_
          obtain ⟨x, hx, hx2⟩ : ∃ x : Nat, (200 : Int) - ((lat ss).2.2 : Nat) = x ∧ (lat ss).2.2 + x = 200 := ⟨200 - (lat ss).2.2, by omega, by omega⟩
          have c1 := cur_esc g4 (by omega) (show (lat ss).2.2 + x ≤ 200 by omega)
          rw [obB_lst]
          simp [m6]
          rw [hx]
          refine ⟨1, a, b, ss, q, _, _, _, by rw [fob], g4, by omega, by omega, .e1 (by omega), ?_⟩
          simp [obB_lst]
          have l1 : (lat (ss ++ [escStp ss x])).2.2 = 200 := by rw [lat_snoc]; show (lat ss).2.2 + x = 200; omega
          refine ⟨m6, a, b, ss ++ [escStp ss x], q, by rw [fob1], c1, by omega, by simp; omega, ?_⟩
          rw [l1]
          simp [obB_lst]
          rw [fob1]
          obtain ⟨ss1, es1⟩ : ∃ ss1, ss1 = ss ++ [escStp ss x] := ⟨_, rfl⟩
          rw [← es1] at c1 l1 ⊢
          have h11 : ss1.length ≤ 11 := by rw [es1]; simp; omega
          subst hu1
          refine seq_hide fun u1 hu1 => ?_
          rw [obB_lst]
          simp
          refine ⟨1, a, b, ss1, q, .int 1, "InvalidNumber", _, by rw [fob], c1, by omega, by omega, .n1 trivial (by rw [l1]; decide), ?_⟩
          simp [obB_lst]
          have c2 := cur_esc (n := 0) c1 (by omega) (by omega)
          refine ⟨1, a, b, ss1, q, .int ((0 : Nat) : Int), "none", _, by rw [fob]; rfl, c1, by omega, by omega, .e1 (by omega), ?_⟩
          simp [obB_lst]
          rw [fob1]
          obtain ⟨ss2, es2⟩ : ∃ ss2, ss2 = ss1 ++ [escStp ss1 0] := ⟨_, rfl⟩
          rw [← es2] at c2 ⊢
          have h12 : ss2.length ≤ 12 := by rw [es2]; simp; omega
          clear es1 es2 c1 l1 h11 hx hx2 x
          subst hu1
          refine seq_hide fun u1 hu1 => ?_
          obtain ⟨ss0, hs0⟩ : ∃ ss0, ss0 = ss := ⟨_, rfl⟩
          obtain ⟨L0, hL0⟩ : ∃ L0, L0 = [D.tup [D.int 0, vb, D.str (Str.ofString "InvalidText")], D.tup [D.int 1, o, D.str (Str.ofString "InvalidNumber")], D.tup [D.int 2, p, D.str (Str.ofString "InvalidNumber")], D.tup [D.int 2, D.int 0, D.str (Str.ofString "none")], D.tup [D.int 2, D.int ss.length, D.str (Str.ofString "none")]] := ⟨_, rfl⟩
          rw [← hL0, ← hs0]
          refine while_of (fun m ρ' => ∃ ss : List Stp, ss.length = m ∧ Cur q ss ∧ ss.length ≤ 12 ∧ ρ' = [.dat (.lst (ns.map .int)), .own false r5, .dat (.int (i : Nat)), obB a b ss, .dat (.int ((lat ss0).2.2 : Nat)), v5, v6, .dat vb, .dat o, .dat p, .dat (.lst L0), .dat (.str S), v12, v13, v14]) ss2.length ⟨ss2, rfl, c2, h12, rfl⟩ ?_
          rintro m ρ' X' ⟨ss, rfl, c3, h3, rfl⟩ hX'
          rw [obB_lst]
          simp [m7]
          refine ⟨a, b, ss, by rw [fob], ?_⟩
          simp [obB_lst]
          refine ⟨by omega, ?_⟩
          rcases List.eq_nil_or_concat ss with rfl | ⟨us, s, hu⟩
          · rw [if_neg (by simp)]
            subst hu1
            simp
            have lz : lat [] = ([], [], 0) := rfl
            refine ⟨3, a, b, [], q, .int 0, "NothingToUndo", _, rfl, c3, by omega, by simp, .x3, ?_⟩
            simp [obB_lst, m4]
            refine ⟨a, b, [], q, rfl, c3, by omega, by simp, ?_⟩
            simp [obB_lst, lz, m7]
            refine ⟨a, b, [], rfl, ?_⟩
            simp [obB_lst]
            exact hX _ ⟨r5, i + 1, j, _, _, _, _, _, _, _, _, _, _, _, _, _, by omega, by push_cast; rfl, hr5.mono (by omega), rfl, by trivial, by trivial, by trivial, n5, n6, by trivial, by trivial, by trivial, by trivial, by trivial, n12, n13, n14⟩
          · rw [List.concat_eq_append] at hu
            subst hu
            rw [if_pos (by simp)]
            refine ⟨3, a, b, us ++ [s], q, .int 0, "none", us, by rw [fob], c3, by omega, by omega, .u3, ?_⟩
            simp [obB_lst]
            rw [fob]
            exact hX' us.length _ (by simp) ⟨us, rfl, fun s' hs' => c3 s' (by simp [hs']), by simp at h3; omega, rfl⟩
        · clear n12 n13 n14 v12 v13 v14 hX
          rintro d ds ρ' X ⟨v12, v13, v14, hd, rfl, n12, n13, n14⟩ hX
          obtain ⟨k, v, r, rfl, har⟩ := hd d (List.mem_cons_self ..)
          rw [obB_lst]
          simp [okV_of n12, okV_of n13, okV_of n14]
          refine ⟨k, a, b, ss, q, v, r, ss, by rw [fob], g4, by omega, by omega, har, ?_⟩
          simp [obB_lst]
          rw [fob]
          exact hX _ ⟨_, _, _, fun d' hd' => hd d' (List.mem_cons_of_mem _ hd'), rfl, by trivial, by trivial, by trivial⟩
        · obtain ⟨t1, t2, t3⟩ := badT_ok vb hvb
          intro d hd
          simp only [List.mem_cons, List.not_mem_nil, or_false] at hd
          rcases hd with rfl | rfl | rfl | rfl | rfl
          · exact ⟨_, _, _, rfl, .t0 t2 t3 t1⟩
          · exact ⟨_, _, _, rfl, .n1 hoo.1 hoo.2⟩
          · exact ⟨_, _, _, rfl, .n2 hpp.1 hpp.2⟩
          · exact ⟨_, _, _, rfl, .s2 trivial (by simp [isIntD])⟩
          · exact ⟨_, _, _, rfl, .s2 trivial (by simp [isIntD])⟩
      · clear hX
        rintro d ds ρ' X ⟨r2, i', j', ss, q, v5, v6, g1, g2, g3, rfl, g4, g5, g6, n5, n6⟩ hX
        cases j' with
        | zero => cases g2
        | succ j' =>
          rw [rng_cons] at g2
          obtain ⟨rfl, rfl⟩ : d = .int (i' : Int) ∧ ds = rangeD ((i' : Int) + 1) j' := by simpa using g2
          have la := g4.lat
          have le := la.le
          simp [okV_of n5]
          refine ⟨B + 800 + 5 * j' + 4, r2, 2, rfl, g3.mono (by omega), cdivW_of (by omega) (by omega), fun r3 k2 hr3 hk20 hk21 => ?_⟩
          simp
          rcases (show k2 = 0 ∨ k2 = 1 by omega) with rfl | rfl
          · rw [obB_lst]
            simp [m1]
            refine ⟨B + 800 + 5 * j' + 3, r3, 5, rfl, hr3.mono (by omega), cdivW_of (by omega) (by omega), fun r4 k3 hr4 hk30 hk31 => ?_⟩
            simp [m1]
            have ea : D.lst [D.tup [D.str (Str.ofString "\\"), D.int (1 + k3)], D.tup [D.str (Str.ofString "\""), D.int 1]] = .lst ((addT (1 + k3)).map runD) := rfl
            rw [ea]
            refine .inl ⟨a, b, ss, q, 1 + k3, by rw [fob], g4, by omega, by omega, by omega, by omega, ?_⟩
            simp [obB_lst]
            rw [fob1]
            exact hX _ ⟨r4, i' + 1, j', ss ++ [addStp ss (1 + k3)], q + 1, _, _, by omega, by push_cast; rfl, hr4.mono (by omega), by rw [lat_snoc]; rfl, cur_add g4 (by omega) (by omega) (by omega), by omega, by simp; omega, by trivial, n6⟩
          · simp
            refine ⟨B + 800 + 5 * j' + 3, r3, 2, rfl, hr3.mono (by omega), cdivW_of (by omega) (by omega), fun r4 k3 hr4 hk30 hk31 => ?_⟩
            simp
            obtain ⟨m, em, hm1, hm2⟩ : ∃ m : Int, atI [D.int 3, D.int (201 - ((lat ss).2.2 : Nat))] k3 = some (.int m) ∧ 1 ≤ m ∧ m ≤ 201 := by
              rcases (show k3 = 0 ∨ k3 = 1 by omega) with rfl | rfl
              · exact ⟨3, rfl, by omega, by omega⟩
              · exact ⟨201 - ((lat ss).2.2 : Nat), rfl, by omega, by omega⟩
            refine ⟨_, em, B + 800 + 5 * j' + 2, r4, m, rfl, hr4.mono (by omega), cdivW_of (by omega) (by omega), fun r5 k4 hr5 hk40 hk41 => ?_⟩
            simp [okV_of n6]
            obtain ⟨x, hx, hx1⟩ : ∃ x : Nat, (if (200 : Int) - ((lat ss).2.2 : Nat) < k4 then (200 : Int) - ((lat ss).2.2 : Nat) else k4) = x ∧ (lat ss).2.2 + x ≤ 200 := by
              by_cases h : (200 : Int) - ((lat ss).2.2 : Nat) < k4
              · exact ⟨200 - (lat ss).2.2, by rw [if_pos h]; omega, by omega⟩
              · exact ⟨k4.toNat, by rw [if_neg h]; omega, by omega⟩
            rw [hx]
            rw [obB_lst]
            simp [m2]
            refine .inl ⟨a, b, ss, q, x, by rw [fob], g4, by omega, by omega, by omega, ?_⟩
            simp [obB_lst]
            rw [fob1]
            exact hX _ ⟨r5, i' + 1, j', ss ++ [escStp ss x], q, _, _, by omega, by push_cast; rfl, hr5.mono (by omega), by rw [lat_snoc]; rfl, cur_esc g4 (by omega) hx1, by omega, by simp; omega, by trivial, by trivial⟩
def topS (i : Nat) : Stmt := PySem.Challenge.pw_slashlevels_k52_builder_errors.main.body.getD i (.Pass ⟨0, 0, 0, 0⟩)
/-- the built-ins that no name of the module hides -/
structure Bi (mg : Str → Option Value) : Prop where
  ValueError_ : mg "ValueError" = none
  abs_ : mg "abs" = none
  all_ : mg "all" = none
  bool_ : mg "bool" = none
  int_ : mg "int" = none
  isinstance_ : mg "isinstance" = none
  len_ : mg "len" = none
  list_ : mg "list" = none
  min_ : mg "min" = none
  ord_ : mg "ord" = none
  range_ : mg "range" = none
  repr_ : mg "repr" = none
  str_ : mg "str" = none
  tuple_ : mg "tuple" = none
section
variable {P : Program} {w : World} {K : PySem.W.Frag} {mg : Str → Option Value} {base : Heap}
abbrev s_NotEscaped_init : Stmt := inClass (topS 3) 0
theorem sc_NotEscaped_init : FnScope ["self", "position"] ["self", "position"] (defScope s_NotEscaped_init) := ⟨rfl, rfl, rfl, by decide +kernel, rfl, by decide +kernel, by decide +kernel⟩
theorem wi_NotEscaped_init {C f : Addr} {fd : FuncData} (F : FunD K "__init__" "NotEscaped.__init__" (defArgs s_NotEscaped_init) (defBody s_NotEscaped_init) (defScope s_NotEscaped_init) [] [] f fd) (T : OexC K C) (n0 : PySem.W.findIn K (.ref C) "position" = some none) (S : BaseI K mg "SlashError") : FnOk P w K mg base (L2N.CX P w) 1 f fd ["self", "position"] (spX C "position") := by
  refine F.ok sc_NotEscaped_init (fun vs H Q E h => ?_) (fun cdv A outer s H vs Q E hr h => ?_)
  · obtain ⟨a, v, rfl, _⟩ := h
    rfl
  · obtain ⟨a, v, rfl, ha, hq⟩ := h
    refine ⟨_, pss_cons (ps_expr (pe_slinit S rfl (pa_cons (pv 0) (pa_cons pe_str pa_nil)))) (pss_one (ps_ost (pv 0) (pv 1))), ?_⟩
    refine ⟨_, rfl, a, C, [.str _], rfl, by show 1 ≤ 1000; decide, T, ha, ?_⟩
    exact ⟨_, rfl, _, rfl, a, C, rfl, T, n0, .inl ⟨ha, fun dx hdx hne => hq dx hdx hne⟩⟩
abbrev s_TooLong_init : Stmt := inClass (topS 4) 0
theorem sc_TooLong_init : FnScope ["self", "length"] ["self", "length"] (defScope s_TooLong_init) := ⟨rfl, rfl, rfl, by decide +kernel, rfl, by decide +kernel, by decide +kernel⟩
theorem wi_TooLong_init {C f : Addr} {fd : FuncData} (F : FunD K "__init__" "TooLong.__init__" (defArgs s_TooLong_init) (defBody s_TooLong_init) (defScope s_TooLong_init) [] [] f fd) (T : OexC K C) (n0 : PySem.W.findIn K (.ref C) "length" = some none) (S : BaseI K mg "SlashError") : FnOk P w K mg base (L2N.CX P w) 1 f fd ["self", "length"] (spX C "length") := by
  refine F.ok sc_TooLong_init (fun vs H Q E h => ?_) (fun cdv A outer s H vs Q E hr h => ?_)
  · obtain ⟨a, v, rfl, _⟩ := h
    rfl
  · obtain ⟨a, v, rfl, ha, hq⟩ := h
    refine ⟨_, pss_cons (ps_expr (pe_slinit S rfl (pa_cons (pv 0) (pa_cons pe_str pa_nil)))) (pss_one (ps_ost (pv 0) (pv 1))), ?_⟩
    refine ⟨_, rfl, a, C, [.str _], rfl, by show 1 ≤ 1000; decide, T, ha, ?_⟩
    exact ⟨_, rfl, _, rfl, a, C, rfl, T, n0, .inl ⟨ha, fun dx hdx hne => hq dx hdx hne⟩⟩
abbrev s_Contradiction_init : Stmt := inClass (topS 5) 0
theorem sc_Contradiction_init : FnScope ["self", "indices"] ["self", "indices"] (defScope s_Contradiction_init) := ⟨rfl, rfl, rfl, by decide +kernel, rfl, by decide +kernel, by decide +kernel⟩
theorem wi_Contradiction_init {C f : Addr} {fd : FuncData} (F : FunD K "__init__" "Contradiction.__init__" (defArgs s_Contradiction_init) (defBody s_Contradiction_init) (defScope s_Contradiction_init) [] [] f fd) (T : OexC K C) (n0 : PySem.W.findIn K (.ref C) "indices" = some none) (S : BaseI K mg "SlashError") : FnOk P w K mg base (L2N.CX P w) 1 f fd ["self", "indices"] (spX C "indices") := by
  refine F.ok sc_Contradiction_init (fun vs H Q E h => ?_) (fun cdv A outer s H vs Q E hr h => ?_)
  · obtain ⟨a, v, rfl, _⟩ := h
    rfl
  · obtain ⟨a, v, rfl, ha, hq⟩ := h
    refine ⟨_, pss_cons (ps_expr (pe_slinit S rfl (pa_cons (pv 0) (pa_cons pe_str pa_nil)))) (pss_one (ps_ost (pv 0) (pv 1))), ?_⟩
    refine ⟨_, rfl, a, C, [.str _], rfl, by show 1 ≤ 1000; decide, T, ha, ?_⟩
    exact ⟨_, rfl, _, rfl, a, C, rfl, T, n0, .inl ⟨ha, fun dx hdx hne => hq dx hdx hne⟩⟩
abbrev s_ParseError_init : Stmt := inClass (topS 6) 0
theorem sc_ParseError_init : FnScope ["self", "index"] ["self", "index"] (defScope s_ParseError_init) := ⟨rfl, rfl, rfl, by decide +kernel, rfl, by decide +kernel, by decide +kernel⟩
theorem wi_ParseError_init {C f : Addr} {fd : FuncData} (F : FunD K "__init__" "ParseError.__init__" (defArgs s_ParseError_init) (defBody s_ParseError_init) (defScope s_ParseError_init) [] [] f fd) (T : OexC K C) (n0 : PySem.W.findIn K (.ref C) "index" = some none) (S : BaseI K mg "SlashError") : FnOk P w K mg base (L2N.CX P w) 1 f fd ["self", "index"] (spX C "index") := by
  refine F.ok sc_ParseError_init (fun vs H Q E h => ?_) (fun cdv A outer s H vs Q E hr h => ?_)
  · obtain ⟨a, v, rfl, _⟩ := h
    rfl
  · obtain ⟨a, v, rfl, ha, hq⟩ := h
    refine ⟨_, pss_cons (ps_expr (pe_slinit S rfl (pa_cons (pv 0) (pa_cons pe_str pa_nil)))) (pss_one (ps_ost (pv 0) (pv 1))), ?_⟩
    refine ⟨_, rfl, a, C, [.str _], rfl, by show 1 ≤ 1000; decide, T, ha, ?_⟩
    exact ⟨_, rfl, _, rfl, a, C, rfl, T, n0, .inl ⟨ha, fun dx hdx hne => hq dx hdx hne⟩⟩
abbrev s_Part_init : Stmt := inClass (topS 33) 0
theorem sc_Part_init : FnScope ["self", "start", "symbol", "size", "quoted", "many"] ["self", "start", "symbol", "size", "quoted", "many"] (defScope s_Part_init) := ⟨rfl, rfl, rfl, by decide +kernel, rfl, by decide +kernel, by decide +kernel⟩
theorem wi_Part_init {C f : Addr} {fd : FuncData} (F : FunD K "__init__" "Part.__init__" (defArgs s_Part_init) (defBody s_Part_init) (defScope s_Part_init) [] [] f fd) (cl : Cls K C) (n0 : NoAttr K C "start") (n1 : NoAttr K C "symbol") (n2 : NoAttr K C "size") (n3 : NoAttr K C "quoted") (n4 : NoAttr K C "many") : FnOk P w K mg base (L2N.CX P w) 1 f fd ["self", "start", "symbol", "size", "quoted", "many"] (spI C ["start", "symbol", "size", "quoted", "many"]) := by
  refine F.ok sc_Part_init (fun vs H Q E h => ?_) (fun cdv A outer s H vs Q E hr h => ?_)
  · obtain ⟨x, dx, args, rfl, hl, _⟩ := h
    rw [List.length_cons, hl]; rfl
  · obtain ⟨x, dx, args, rfl, hl, hx, q⟩ := h
    match args, hl with
    | [a0, a1, a2, a3, a4], _ =>
      have e0 : putF "start" a0 ([] : List (Str × V)) = ([("start", a0)] : List (Str × V)) := putF_snoc (show ("start" : Str) ∉ ([] : List Str) by decide +kernel)
      have e1 : putF "symbol" a1 ([("start", a0)] : List (Str × V)) = ([("start", a0), ("symbol", a1)] : List (Str × V)) := putF_snoc (show ("symbol" : Str) ∉ (["start"] : List Str) by decide +kernel)
      have e2 : putF "size" a2 ([("start", a0), ("symbol", a1)] : List (Str × V)) = ([("start", a0), ("symbol", a1), ("size", a2)] : List (Str × V)) := putF_snoc (show ("size" : Str) ∉ (["start", "symbol"] : List Str) by decide +kernel)
      have e3 : putF "quoted" a3 ([("start", a0), ("symbol", a1), ("size", a2)] : List (Str × V)) = ([("start", a0), ("symbol", a1), ("size", a2), ("quoted", a3)] : List (Str × V)) := putF_snoc (show ("quoted" : Str) ∉ (["start", "symbol", "size"] : List Str) by decide +kernel)
      have e4 : putF "many" a4 ([("start", a0), ("symbol", a1), ("size", a2), ("quoted", a3)] : List (Str × V)) = ([("start", a0), ("symbol", a1), ("size", a2), ("quoted", a3), ("many", a4)] : List (Str × V)) := putF_snoc (show ("many" : Str) ∉ (["start", "symbol", "size", "quoted"] : List Str) by decide +kernel)
      refine ⟨_, pss_cons (ps_fld (pv 0) (pv 1) rfl) (pss_cons (ps_fld (pv 0) (pv 2) rfl) (pss_cons (ps_fld (pv 0) (pv 3) rfl) (pss_cons (ps_fld (pv 0) (pv 4) rfl) (pss_one (ps_fld (pv 0) (pv 5) rfl))))), ?_⟩
      refine ⟨_, rfl, _, rfl, x, C, dx, [], rfl, hx, cl, n0, (by show 0 < 1000; decide), ?_⟩
      rw [e0]
      refine ⟨_, rfl, _, rfl, x, C, dx, [("start", a0)], rfl, upd_same, cl, n1, (by show 1 < 1000; decide), ?_⟩
      rw [e1]
      rw [upd_upd]
      refine ⟨_, rfl, _, rfl, x, C, dx, [("start", a0), ("symbol", a1)], rfl, upd_same, cl, n2, (by show 2 < 1000; decide), ?_⟩
      rw [e2]
      rw [upd_upd]
      refine ⟨_, rfl, _, rfl, x, C, dx, [("start", a0), ("symbol", a1), ("size", a2)], rfl, upd_same, cl, n3, (by show 3 < 1000; decide), ?_⟩
      rw [e3]
      rw [upd_upd]
      refine ⟨_, rfl, _, rfl, x, C, dx, [("start", a0), ("symbol", a1), ("size", a2), ("quoted", a3)], rfl, upd_same, cl, n4, (by show 4 < 1000; decide), ?_⟩
      rw [e4]
      rw [upd_upd]
      exact q
abbrev s_is_integer : Stmt := topS 21
theorem sc_is_integer : FnScope ["value", "low", "high"] ["value", "low", "high"] (defScope s_is_integer) := ⟨rfl, rfl, rfl, by decide +kernel, rfl, by decide +kernel, by decide +kernel⟩
theorem w_is_integer {f : Addr} {fd : FuncData} (B : Bi mg) (hsys : ∃ o es ep, base.get? sysModules = some o ∧ o.data = .dict es ep) (F : FunD K "is_integer" "is_integer" (defArgs s_is_integer) (defBody s_is_integer) (defScope s_is_integer) [.non] [] f fd) : FnG P w K mg base 1 f fd ["value", "low", "high"] (spV K 3 c_is_integer) :=
  ok_sat (t := b_is_integer) F sc_is_integer hsys (fun cdv A ou s H E rn po tk => ss_cons (s_if (tw (tw_or (t_not (t_truV (v_isi (T := "int") (by decide) (by rfl) B.isinstance_ (by rfl) B.int_ (by decide +kernel) (vv 0)))) (tw_or1 (t_truV (v_isi (T := "bool") (by decide) (by rfl) B.isinstance_ (by rfl) B.bool_ (by decide +kernel) (vv 0)))))) (ss_one (s_ret (e_bl))) (ss_nil))
      (ss_one (s_ret (e_and (e_cmp op_leA b2_ord (ev 1) (ev 0) (nomark _)) (e_one (e_or (e_cmp op_isN b2_isN (ev 2) (e_non) (nomark _)) (e_one (e_cmp op_leA b2_ord (ev 0) (ev 2) (nomark _))))))))) p_is_integer
abbrev s_is_symbol : Stmt := topS 22
theorem sc_is_symbol : FnScope ["value"] ["value"] (defScope s_is_symbol) := ⟨rfl, rfl, rfl, by decide +kernel, rfl, by decide +kernel, by decide +kernel⟩
theorem w_is_symbol {f : Addr} {fd : FuncData} (B : Bi mg) (hsys : ∃ o es ep, base.get? sysModules = some o ∧ o.data = .dict es ep) (F : FunD K "is_symbol" "is_symbol" (defArgs s_is_symbol) (defBody s_is_symbol) (defScope s_is_symbol) [] [] f fd) (G_PERCENT_CODE : GlC K mg "PERCENT_CODE" (.int 37)) : FnG P w K mg base 1 f fd ["value"] (spV K 1 c_is_symbol) :=
  ok_sat (t := b_is_symbol) F sc_is_symbol hsys (fun cdv A ou s H E rn po tk => ss_one (s_ret (e_and (e_flat (v_isi (T := "str") (by decide) (by rfl) B.isinstance_ (by rfl) B.str_ (by decide +kernel) (vv 0))) (e_and (e_cmp (op_eqS rn.hr.units) b2_eq (e_callB call_len bn_len (by rfl) B.len_ (by decide +kernel) (es_cons (ev 0) (es_nil))) (e_int) (nomark _)) (e_and (e_flat (v_chain op_leA b2_ord op_leA b2_ord (v_str) (vv 0) (v_str))) (e_one (e_cmp (op_neS rn.hr.units) b2_ne (e_callB call_ord bn_ord (by rfl) B.ord_ (by decide +kernel) (es_cons (ev 0) (es_nil))) (e_glob G_PERCENT_CODE (by rfl)) (nomark _)))))))) p_is_symbol
abbrev s_is_run : Stmt := topS 23
theorem sc_is_run : FnScope ["value"] ["value"] (defScope s_is_run) := ⟨rfl, rfl, rfl, by decide +kernel, rfl, by decide +kernel, by decide +kernel⟩
theorem w_is_run {f : Addr} {fd : FuncData} (B : Bi mg) (hsys : ∃ o es ep, base.get? sysModules = some o ∧ o.data = .dict es ep) (F : FunD K "is_run" "is_run" (defArgs s_is_run) (defBody s_is_run) (defScope s_is_run) [] [] f fd) (D_is_symbol : DefC P w K mg base 1 "is_symbol" ["value"] [] c_is_symbol) (D_is_integer1 : DefC P w K mg base 1 "is_integer" ["value", "low", "high"] [.non] c_is_integer) : FnG P w K mg base 2 f fd ["value"] (spV K 1 c_is_run) :=
  ok_sat (t := b_is_run) F sc_is_run hsys (fun cdv A ou s H E rn po tk => ss_cons (s_if (tw (tw_or (t_not (t_truV (v_isi2 (T := "list") (U := "tuple") (by decide) (by decide) (by rfl) B.isinstance_ (by rfl) B.list_ (by decide +kernel) (by rfl) B.tuple_ (by decide +kernel) (vv 0)))) (tw_or1 (t_cmpV (op_neS rn.hr.units) b2_ne (v_callB call_len bn_len (by rfl) B.len_ (by decide +kernel) (vs_cons (vv 0) (vs_nil))) (v_int) (nomark _))))) (ss_one (s_ret (e_bl))) (ss_nil))
      (ss_one (s_ret (e_and (e_def D_is_symbol (rn.mono (by decide)) tk (by rfl) (r_dat (e_ix ix_seq b2_ix (ev 0) (e_int) (fun _ _ => rfl)) (r_nil))) (e_one (e_def D_is_integer1 (rn.mono (by decide)) tk (by rfl) (r_dat (e_ix ix_seq b2_ix (ev 0) (e_int) (fun _ _ => rfl)) (r_dat (e_int) (r_nil))))))))) p_is_run
abbrev s_is_text : Stmt := topS 24
theorem sc_is_text : FnScope ["value", "run", "place"] ["value"] (defScope s_is_text) := ⟨rfl, rfl, rfl, by decide +kernel, rfl, by decide +kernel, by decide +kernel⟩
theorem w_is_text {f : Addr} {fd : FuncData} (B : Bi mg) (hsys : ∃ o es ep, base.get? sysModules = some o ∧ o.data = .dict es ep) (F : FunD K "is_text" "is_text" (defArgs s_is_text) (defBody s_is_text) (defScope s_is_text) [] [] f fd) (D_is_run : DefC P w K mg base 2 "is_run" ["value"] [] c_is_run) : FnG P w K mg base 3 f fd ["value"] (spV K 1 c_is_text) :=
  ok_sat (t := b_is_text) F sc_is_text hsys (fun cdv A ou s H E rn po tk => ss_cons (s_if (tw (tw_or (t_not (t_truV (v_isi2 (T := "list") (U := "tuple") (by decide) (by decide) (by rfl) B.isinstance_ (by rfl) B.list_ (by decide +kernel) (by rfl) B.tuple_ (by decide +kernel) (vv 0)))) (tw_or1 (t_not (t_tru (e_callB (cr_all rfl) bn_all (by rfl) B.all_ (by decide +kernel) (es_cons (e_frz (o_lc (own := [("run", 1)]) rfl sc_is_text.nd (i_any (ev 0)) (blkOk_by (show blkC ["value", "run", "place"] (defScope s_is_text) _ _ = true by decide +kernel)) (fun _ _ _ _ _ => si_name (i := 1) sc_is_text.nd) (fun _ _ _ _ _ => tx_nil) (fun _ _ _ _ _ => e_def D_is_run (rn.blk.mono (by decide)) tk0 (by rfl) (r_dat (ev 1) (r_nil))))) (es_nil)))))))) (ss_one (s_ret (e_bl))) (ss_nil))
      (ss_one (s_ret (e_callB (cr_all rfl) bn_all (by rfl) B.all_ (by decide +kernel) (es_cons (e_frz (o_lc (own := [("place", 2)]) rfl sc_is_text.nd (i_range1 (by rfl) B.range_ (es_cons (e_op op_sub b2_sub (e_callB call_len bn_len (by rfl) B.len_ (by decide +kernel) (es_cons (ev 0) (es_nil))) (e_int)) (es_nil))) (blkOk_by (show blkC ["value", "run", "place"] (defScope s_is_text) _ _ = true by decide +kernel)) (fun _ _ _ _ _ => si_name (i := 2) sc_is_text.nd) (fun _ _ _ _ _ => tx_nil) (fun _ _ _ _ _ => e_cmp (op_neS rn.blk.hr.units) b2_ne (e_ix ix_seq b2_ix (e_ix ix_seq b2_ix (ev 0) (ev 2) (fun _ _ => rfl)) (e_int) (fun _ _ => rfl)) (e_ix ix_seq b2_ix (e_ix ix_seq b2_ix (ev 0) (e_op op_addB b2_addB (ev 2) (e_int)) (fun _ _ => rfl)) (e_int) (fun _ _ => rfl)) (nomark _)))) (es_nil)))))) p_is_text
abbrev s_checked_text : Stmt := topS 25
theorem sc_checked_text : FnScope ["text", "run"] ["text"] (defScope s_checked_text) := ⟨rfl, rfl, rfl, by decide +kernel, rfl, by decide +kernel, by decide +kernel⟩
theorem w_checked_text {f : Addr} {fd : FuncData} (B : Bi mg) (hsys : ∃ o es ep, base.get? sysModules = some o ∧ o.data = .dict es ep) (F : FunD K "checked_text" "checked_text" (defArgs s_checked_text) (defBody s_checked_text) (defScope s_checked_text) [] [] f fd) (D_is_text : DefC P w K mg base 3 "is_text" ["value"] [] c_is_text) (RA_InvalidText : RaiC K mg "InvalidText") : FnG P w K mg base 4 f fd ["text"] (spV K 1 c_checked_text) :=
  ok_sat (t := b_checked_text) F sc_checked_text hsys (fun cdv A ou s H E rn po tk => ss_cons (s_if (t_not (t_truV (v_def D_is_text (rn.mono (by decide)) tk0 (by rfl) (vr_cons (vv 0) (vr_nil))))) (ss_one (s_raise0 rfl tk RA_InvalidText (by rfl))) (ss_nil))
      (ss_one (s_retO (o_lc (own := [("run", 1)]) rfl sc_checked_text.nd (i_any (ev 0)) (blkOk_by (show blkC ["text", "run"] (defScope s_checked_text) _ _ = true by decide +kernel)) (fun _ _ _ _ _ => si_name (i := 1) sc_checked_text.nd) (fun _ _ _ _ _ => tx_nil) (fun _ _ _ _ _ => e_callT call_tuple_of bn_tuple (by rfl) B.tuple_ (by decide +kernel) (es_cons (ev 1) (es_nil))))))) p_checked_text
abbrev s_add_run : Stmt := topS 26
theorem sc_add_run : FnScope ["runs", "symbol", "count"] ["runs", "symbol", "count"] (defScope s_add_run) := ⟨rfl, rfl, rfl, by decide +kernel, rfl, by decide +kernel, by decide +kernel⟩
theorem w_add_run {f : Addr} {fd : FuncData} (B : Bi mg) (hsys : ∃ o es ep, base.get? sysModules = some o ∧ o.data = .dict es ep) (F : FunD K "add_run" "add_run" (defArgs s_add_run) (defBody s_add_run) (defScope s_add_run) [] [] f fd) : FnG P w K mg base 1 f fd ["runs", "symbol", "count"] (spV K 3 c_add_run) :=
  ok_sat (t := b_add_run) F sc_add_run hsys (fun cdv A ou s H E rn po tk => ss_cons (s_if (t_cmpV op_ltA b2_ord (vv 2) (v_int) (nomark _)) (ss_one (s_retN)) (ss_nil))
      (ss_one (s_if (tw (tw_and (t_cmpV (op_neS rn.hr.units) b2_ne (vv 0) (v_lst (vs_nil)) (nomark _)) (tw_and1 (t_cmpV (op_eqS rn.hr.units) b2_eq (v_ix ix_seq b2_ix (v_ix ix_seq b2_ix (vv 0) (v_un un_neg b1_neg (v_int)) (fun _ _ => rfl)) (v_int) (fun _ _ => rfl)) (vv 1) (nomark _))))) (ss_one (s_put (i := 0) (e_tup (es_cons (ev 1) (es_cons (e_op op_addB b2_addB (e_ix ix_seq b2_ix (e_ownIx 0 (e_un un_neg b1_neg (e_int)) (fun _ _ => rfl)) (e_int) (fun _ _ => rfl)) (ev 2)) (es_nil)))) (e_un un_neg b1_neg (e_int)))) (ss_one (s_app (i := 0) (e_tup (es_cons (ev 1) (es_cons (ev 2) (es_nil)))) (hp := fun _ h => pe_bm PySem.F.plainAttrs_list PySem.F.slot_list_append PySem.F.type_list_append mt_append (pv 0) (pa_cons h pa_nil))))))) p_add_run
abbrev s_add_runs : Stmt := topS 27
theorem sc_add_runs : FnScope ["runs", "other", "symbol", "count"] ["runs", "other"] (defScope s_add_runs) := ⟨rfl, rfl, rfl, by decide +kernel, rfl, by decide +kernel, by decide +kernel⟩
theorem w_add_runs {f : Addr} {fd : FuncData} (B : Bi mg) (hsys : ∃ o es ep, base.get? sysModules = some o ∧ o.data = .dict es ep) (F : FunD K "add_runs" "add_runs" (defArgs s_add_runs) (defBody s_add_runs) (defScope s_add_runs) [] [] f fd) (D_add_run : DefC P w K mg base 1 "add_run" ["runs", "symbol", "count"] [] c_add_run) : FnG P w K mg base 2 f fd ["runs", "other"] (spV K 2 c_add_runs) :=
  ok_sat (t := b_add_runs) F sc_add_runs hsys (fun cdv A ou s H E rn po tk => ss_one (s_for po rfl (i_any (ev 1)) (g_tup rfl (gs_cons (g_name (i := 2) sc_add_runs.nd) (gs_cons (g_name (i := 3) sc_add_runs.nd) (gs_nil) (hm := gm_name)) (hm := gm_name))) (ss_one (s_expr (e_def D_add_run (rn.mono (by decide)) tk (by rfl) (r_io 0 (r_dat (ev 2) (r_dat (ev 3) (r_nil))))))))) p_add_runs
abbrev s_y_appended : Stmt := topS 28
theorem sc_y_appended : FnScope ["text", "other", "runs", "more"] ["text", "other"] (defScope s_y_appended) := ⟨rfl, rfl, rfl, by decide +kernel, rfl, by decide +kernel, by decide +kernel⟩
theorem w_y_appended {f : Addr} {fd : FuncData} (B : Bi mg) (hsys : ∃ o es ep, base.get? sysModules = some o ∧ o.data = .dict es ep) (F : FunD K "appended" "appended" (defArgs s_y_appended) (defBody s_y_appended) (defScope s_y_appended) [] [] f fd) (D_add_runs : DefC P w K mg base 2 "add_runs" ["runs", "other"] [] c_add_runs) (D_checked_text : DefC P w K mg base 4 "checked_text" ["text"] [] c_checked_text) : FnG P w K mg base 5 f fd ["text", "other"] (spV K 2 c_y_appended) :=
  ok_sat (t := b_y_appended) F sc_y_appended hsys (fun cdv A ou s H E rn po tk => ss_cons (s_parO (i := 2) (j := 3) rfl sc_y_appended.nd (o_def D_checked_text (rn.mono (by decide)) tk (by rfl) (r_dat (ev 0) (r_nil))) (e_def D_checked_text (rn.mono (by decide)) tk (by rfl) (r_dat (ev 1) (r_nil))))
      (ss_cons (s_expr (e_def D_add_runs (rn.mono (by decide)) tk (by rfl) (r_io 2 (r_dat (ev 3) (r_nil)))))
      (ss_one (s_retV (i := 2))))) p_y_appended
abbrev s_check_escapes : Stmt := topS 31
theorem sc_check_escapes : FnScope ["number"] ["number"] (defScope s_check_escapes) := ⟨rfl, rfl, rfl, by decide +kernel, rfl, by decide +kernel, by decide +kernel⟩
theorem w_check_escapes {f : Addr} {fd : FuncData} (B : Bi mg) (hsys : ∃ o es ep, base.get? sysModules = some o ∧ o.data = .dict es ep) (F : FunD K "check_escapes" "check_escapes" (defArgs s_check_escapes) (defBody s_check_escapes) (defScope s_check_escapes) [] [] f fd) (G_MAX_ESCAPES : GlC K mg "MAX_ESCAPES" (.int 200)) (D_is_integer : DefC P w K mg base 1 "is_integer" ["value", "low", "high"] [] c_is_integer) (RA_InvalidNumber : RaiC K mg "InvalidNumber") : FnG P w K mg base 2 f fd ["number"] (spV K 1 c_check_escapes) :=
  ok_sat (t := b_check_escapes) F sc_check_escapes hsys (fun cdv A ou s H E rn po tk => ss_one (s_if (t_not (t_truV (v_def D_is_integer (rn.mono (by decide)) tk0 (by rfl) (vr_cons (vv 0) (vr_cons (v_int) (vr_cons (v_glob G_MAX_ESCAPES (by rfl)) (vr_nil))))))) (ss_one (s_raise0 rfl tk RA_InvalidNumber (by rfl))) (ss_nil))) p_check_escapes
abbrev s_power_of_two : Stmt := topS 32
theorem sc_power_of_two : FnScope ["exponent", "found", "turn"] ["exponent"] (defScope s_power_of_two) := ⟨rfl, rfl, rfl, by decide +kernel, rfl, by decide +kernel, by decide +kernel⟩
theorem w_power_of_two {f : Addr} {fd : FuncData} (B : Bi mg) (hsys : ∃ o es ep, base.get? sysModules = some o ∧ o.data = .dict es ep) (F : FunD K "power_of_two" "power_of_two" (defArgs s_power_of_two) (defBody s_power_of_two) (defScope s_power_of_two) [] [] f fd) : FnG P w K mg base 1 f fd ["exponent"] (spV K 1 c_power_of_two) :=
  ok_sat (t := b_power_of_two) F sc_power_of_two hsys (fun cdv A ou s H E rn po tk => ss_cons (s_set (i := 1) sc_power_of_two.nd (e_int))
      (ss_cons (s_for po rfl (i_range1 (by rfl) B.range_ (es_cons (ev 0) (es_nil))) (g_name (i := 2) sc_power_of_two.nd) (ss_one (s_aug (i := 1) sc_power_of_two.nd iop_mul b2_mulS (e_int))))
      (ss_one (s_ret (ev 1))))) p_power_of_two
abbrev s_Part_is_group : Stmt := inClass (topS 33) 1
theorem sc_Part_is_group : FnScope ["self"] ["self"] (defScope s_Part_is_group) := ⟨rfl, rfl, rfl, by decide +kernel, rfl, by decide +kernel, by decide +kernel⟩
theorem w_Part_is_group {f : Addr} {fd : FuncData} (B : Bi mg) (hsys : ∃ o es ep, base.get? sysModules = some o ∧ o.data = .dict es ep) (F : FunD K "is_group" "Part.is_group" (defArgs s_Part_is_group) (defBody s_Part_is_group) (defScope s_Part_is_group) [] [] f fd) (FO_Part_symbol : FldOk K "Part" "symbol") : FnG P w K mg base 1 f fd ["self"] (spV K 1 c_Part_is_group) :=
  ok_sat (t := b_Part_is_group) F sc_Part_is_group hsys (fun cdv A ou s H E rn po tk => ss_one (s_ret (e_cmp op_isN b2_isN (e_fld FO_Part_symbol (ev 0)) (e_non) (nomark _)))) p_Part_is_group
abbrev s_parts_of : Stmt := topS 34
theorem sc_parts_of : FnScope ["runs", "found", "start", "slashes", "symbol", "count", "joined"] ["runs"] (defScope s_parts_of) := ⟨rfl, rfl, rfl, by decide +kernel, rfl, by decide +kernel, by decide +kernel⟩
theorem w_parts_of {f : Addr} {fd : FuncData} (B : Bi mg) (hsys : ∃ o es ep, base.get? sysModules = some o ∧ o.data = .dict es ep) (F : FunD K "parts_of" "parts_of" (defArgs s_parts_of) (defBody s_parts_of) (defScope s_parts_of) [] [] f fd) (G_BACKSLASH : GlC K mg "BACKSLASH" (.str "\\")) (G_QUOTE : GlC K mg "QUOTE" (.str "\"")) (M_Part : MkC P w K mg base 1 "Part" ["start", "symbol", "size", "quoted", "many"]) : FnG P w K mg base 3 f fd ["runs"] (spV K 1 c_parts_of) :=
  ok_sat (t := b_parts_of) F sc_parts_of hsys (fun cdv A ou s H E rn po tk => ss_cons (s_setO (i := 1) sc_parts_of.nd (o_lst (es_nil)))
      (ss_cons (s_set (i := 2) sc_parts_of.nd (e_int))
      (ss_cons (s_set (i := 3) sc_parts_of.nd (e_int))
      (ss_cons (s_for po rfl (i_any (e_op op_addB b2_addB (ev 0) (e_frz (o_lst (es_cons (e_tup (es_cons (e_non) (es_cons (e_int) (es_nil)))) (es_nil)))))) (g_tup rfl (gs_cons (g_name (i := 4) sc_parts_of.nd) (gs_cons (g_name (i := 5) sc_parts_of.nd) (gs_nil) (hm := gm_name)) (hm := gm_name))) (ss_cons (s_if (t_cmpV (op_eqS rn.hr.units) b2_eq (vv 4) (v_glob G_BACKSLASH (by rfl)) (nomark _)) (ss_one (s_set (i := 3) sc_parts_of.nd (ev 5))) (ss_one (s_if (t_cmpV (op_eqS rn.hr.units) b2_eq (vv 4) (v_glob G_QUOTE (by rfl)) (nomark _)) (ss_cons (s_set (i := 6) sc_parts_of.nd (e_callT call_int1 bn_int (by rfl) B.int_ (by decide +kernel) (es_cons (e_cmp op_gtA b2_ord (ev 3) (e_int) (nomark _)) (es_nil))))
      (ss_cons (s_if (t_cmpV (op_eqS rn.hr.units) b2_eq (vv 6) (v_int) (nomark _)) (ss_one (s_app (i := 1) (e_make M_Part (rn.mono (by decide)) tk (by rfl) (es_cons (e_op op_sub b2_sub (ev 2) (ev 3)) (es_cons (e_non) (es_cons (e_op op_addB b2_addB (ev 3) (e_int)) (es_cons (e_bl) (es_cons (e_int) (es_nil))))))) (hp := fun _ h => pe_bm PySem.F.plainAttrs_list PySem.F.slot_list_append PySem.F.type_list_append mt_append (pv 1) (pa_cons h pa_nil)))) (ss_nil))
      (ss_cons (s_if (t_cmpV op_gtA b2_ord (vv 5) (vv 6) (nomark _)) (ss_one (s_app (i := 1) (e_make M_Part (rn.mono (by decide)) tk (by rfl) (es_cons (e_op op_addB b2_addB (ev 2) (ev 6)) (es_cons (e_non) (es_cons (e_int) (es_cons (e_bl) (es_cons (e_op op_sub b2_sub (ev 5) (ev 6)) (es_nil))))))) (hp := fun _ h => pe_bm PySem.F.plainAttrs_list PySem.F.slot_list_append PySem.F.type_list_append mt_append (pv 1) (pa_cons h pa_nil)))) (ss_nil))
      (ss_one (s_set (i := 3) sc_parts_of.nd (e_int)))))) (ss_cons (s_if (t_cmpV op_gtA b2_ord (vv 3) (v_int) (nomark _)) (ss_one (s_app (i := 1) (e_make M_Part (rn.mono (by decide)) tk (by rfl) (es_cons (e_op op_sub b2_sub (ev 2) (ev 3)) (es_cons (e_non) (es_cons (ev 3) (es_cons (e_bl) (es_cons (e_int) (es_nil))))))) (hp := fun _ h => pe_bm PySem.F.plainAttrs_list PySem.F.slot_list_append PySem.F.type_list_append mt_append (pv 1) (pa_cons h pa_nil)))) (ss_nil))
      (ss_cons (s_if (t_cmpV op_notN b2_notN (vv 4) (v_non) (nomark _)) (ss_one (s_app (i := 1) (e_make M_Part (rn.mono (by decide)) tk (by rfl) (es_cons (ev 2) (es_cons (ev 4) (es_cons (ev 5) (es_cons (e_bl) (es_cons (e_int) (es_nil))))))) (hp := fun _ h => pe_bm PySem.F.plainAttrs_list PySem.F.slot_list_append PySem.F.type_list_append mt_append (pv 1) (pa_cons h pa_nil)))) (ss_nil))
      (ss_one (s_set (i := 3) sc_parts_of.nd (e_int))))))))
      (ss_one (s_aug (i := 2) sc_parts_of.nd iop_add b2_addI (ev 5)))))
      (ss_one (s_retV (i := 1))))))) p_parts_of
abbrev s_add_group : Stmt := topS 35
theorem sc_add_group : FnScope ["runs", "size", "quoted"] ["runs", "size", "quoted"] (defScope s_add_group) := ⟨rfl, rfl, rfl, by decide +kernel, rfl, by decide +kernel, by decide +kernel⟩
theorem w_add_group {f : Addr} {fd : FuncData} (B : Bi mg) (hsys : ∃ o es ep, base.get? sysModules = some o ∧ o.data = .dict es ep) (F : FunD K "add_group" "add_group" (defArgs s_add_group) (defBody s_add_group) (defScope s_add_group) [] [] f fd) (G_BACKSLASH : GlC K mg "BACKSLASH" (.str "\\")) (G_QUOTE : GlC K mg "QUOTE" (.str "\"")) (D_add_run : DefC P w K mg base 1 "add_run" ["runs", "symbol", "count"] [] c_add_run) : FnG P w K mg base 2 f fd ["runs", "size", "quoted"] (spV K 3 c_add_group) :=
  ok_sat (t := b_add_group) F sc_add_group hsys (fun cdv A ou s H E rn po tk => ss_cons (s_expr (e_def D_add_run (rn.mono (by decide)) tk (by rfl) (r_io 0 (r_dat (e_glob G_BACKSLASH (by rfl)) (r_dat (e_op op_sub b2_sub (ev 1) (e_callT call_int1 bn_int (by rfl) B.int_ (by decide +kernel) (es_cons (ev 2) (es_nil)))) (r_nil))))))
      (ss_one (s_expr (e_def D_add_run (rn.mono (by decide)) tk (by rfl) (r_io 0 (r_dat (e_glob G_QUOTE (by rfl)) (r_dat (e_callT call_int1 bn_int (by rfl) B.int_ (by decide +kernel) (es_cons (ev 2) (es_nil))) (r_nil)))))))) p_add_group
abbrev s_escaped : Stmt := topS 36
theorem sc_escaped : FnScope ["runs", "times", "unit", "found", "part", "turn"] ["runs", "times"] (defScope s_escaped) := ⟨rfl, rfl, rfl, by decide +kernel, rfl, by decide +kernel, by decide +kernel⟩
theorem w_escaped {f : Addr} {fd : FuncData} (B : Bi mg) (hsys : ∃ o es ep, base.get? sysModules = some o ∧ o.data = .dict es ep) (F : FunD K "escaped" "escaped" (defArgs s_escaped) (defBody s_escaped) (defScope s_escaped) [] [] f fd) (D_power_of_two : DefC P w K mg base 1 "power_of_two" ["exponent"] [] c_power_of_two) (D_parts_of : DefC P w K mg base 3 "parts_of" ["runs"] [] c_parts_of) (D_add_run : DefC P w K mg base 1 "add_run" ["runs", "symbol", "count"] [] c_add_run) (D_add_group : DefC P w K mg base 2 "add_group" ["runs", "size", "quoted"] [] c_add_group) (FO_Part_many : FldOk K "Part" "many") (FO_Part_symbol : FldOk K "Part" "symbol") (FO_Part_size : FldOk K "Part" "size") (FO_Part_quoted : FldOk K "Part" "quoted") (ME_Part_is_group : MethC P w K mg base 1 "Part" "is_group" ["self"] c_Part_is_group) : FnG P w K mg base 4 f fd ["runs", "times"] (spV K 2 c_escaped) :=
  ok_sat (t := b_escaped) F sc_escaped hsys (fun cdv A ou s H E rn po tk => ss_cons (s_set (i := 2) sc_escaped.nd (e_def D_power_of_two (rn.mono (by decide)) tk (by rfl) (r_dat (ev 1) (r_nil))))
      (ss_cons (s_setO (i := 3) sc_escaped.nd (o_lst (es_nil)))
      (ss_cons (s_for po rfl (i_any (e_def D_parts_of (rn.mono (by decide)) tk (by rfl) (r_dat (ev 0) (r_nil)))) (g_name (i := 4) sc_escaped.nd) (ss_one (s_if (t_tru (e_meth0 ME_Part_is_group (rn.mono (by decide)) tk (ev 4))) (ss_one (s_for po rfl (i_range1 (by rfl) B.range_ (es_cons (e_fld FO_Part_many (ev 4)) (es_nil))) (g_name (i := 5) sc_escaped.nd) (ss_one (s_expr (e_def D_add_group (rn.mono (by decide)) tk (by rfl) (r_io 3 (r_dat (e_op op_mulB b2_mulB (e_fld FO_Part_size (ev 4)) (ev 2)) (r_dat (e_fld FO_Part_quoted (ev 4)) (r_nil))))))))) (ss_one (s_expr (e_def D_add_run (rn.mono (by decide)) tk (by rfl) (r_io 3 (r_dat (e_fld FO_Part_symbol (ev 4)) (r_dat (e_fld FO_Part_size (ev 4)) (r_nil))))))))))
      (ss_one (s_retV (i := 3)))))) p_escaped
abbrev s_escape : Stmt := topS 37
theorem sc_escape : FnScope ["text", "times", "runs"] ["text", "times"] (defScope s_escape) := ⟨rfl, rfl, rfl, by decide +kernel, rfl, by decide +kernel, by decide +kernel⟩
theorem w_escape {f : Addr} {fd : FuncData} (B : Bi mg) (hsys : ∃ o es ep, base.get? sysModules = some o ∧ o.data = .dict es ep) (F : FunD K "escape" "escape" (defArgs s_escape) (defBody s_escape) (defScope s_escape) [] [] f fd) (D_checked_text : DefC P w K mg base 4 "checked_text" ["text"] [] c_checked_text) (D_check_escapes : DefC P w K mg base 2 "check_escapes" ["number"] [] c_check_escapes) (D_escaped : DefC P w K mg base 4 "escaped" ["runs", "times"] [] c_escaped) : FnG P w K mg base 5 f fd ["text", "times"] (spV K 2 c_escape) :=
  ok_sat (t := b_escape) F sc_escape hsys (fun cdv A ou s H E rn po tk => ss_cons (s_set (i := 2) sc_escape.nd (e_def D_checked_text (rn.mono (by decide)) tk (by rfl) (r_dat (ev 0) (r_nil))))
      (ss_cons (s_expr (e_def D_check_escapes (rn.mono (by decide)) tk (by rfl) (r_dat (ev 1) (r_nil))))
      (ss_one (s_retO (o_def D_escaped (rn.mono (by decide)) tk (by rfl) (r_dat (ev 2) (r_dat (ev 1) (r_nil)))))))) p_escape
abbrev s_add_block : Stmt := topS 39
theorem sc_add_block : FnScope ["blocks", "symbol", "level", "count"] ["blocks", "symbol", "level", "count"] (defScope s_add_block) := ⟨rfl, rfl, rfl, by decide +kernel, rfl, by decide +kernel, by decide +kernel⟩
theorem w_add_block {f : Addr} {fd : FuncData} (B : Bi mg) (hsys : ∃ o es ep, base.get? sysModules = some o ∧ o.data = .dict es ep) (F : FunD K "add_block" "add_block" (defArgs s_add_block) (defBody s_add_block) (defScope s_add_block) [] [] f fd) : FnG P w K mg base 1 f fd ["blocks", "symbol", "level", "count"] (spV K 4 c_add_block) :=
  ok_sat (t := b_add_block) F sc_add_block hsys (fun cdv A ou s H E rn po tk => ss_one (s_if (tw (tw_and (t_cmpV op_gtA b2_ord (vv 3) (v_int) (nomark _)) (tw_and (t_cmpV (op_neS rn.hr.units) b2_ne (vv 0) (v_lst (vs_nil)) (nomark _)) (tw_and1 (t_cmp (op_eqS rn.hr.units) b2_eq (e_slice (e_ownIx 0 (e_un un_neg b1_neg (e_int)) (fun _ _ => rfl)) (px_no) (px_some (e_int))) (e_tup (es_cons (ev 1) (es_cons (ev 2) (es_nil)))) (nomark _)))))) (ss_one (s_put (i := 0) (e_tup (es_cons (ev 1) (es_cons (ev 2) (es_cons (e_op op_addB b2_addB (e_ix ix_seq b2_ix (e_ownIx 0 (e_un un_neg b1_neg (e_int)) (fun _ _ => rfl)) (e_int) (fun _ _ => rfl)) (ev 3)) (es_nil))))) (e_un un_neg b1_neg (e_int)))) (ss_one (s_if (t_cmpV op_gtA b2_ord (vv 3) (v_int) (nomark _)) (ss_one (s_app (i := 0) (e_tup (es_cons (ev 1) (es_cons (ev 2) (es_cons (ev 3) (es_nil))))) (hp := fun _ h => pe_bm PySem.F.plainAttrs_list PySem.F.slot_list_append PySem.F.type_list_append mt_append (pv 0) (pa_cons h pa_nil)))) (ss_nil))))) p_add_block
abbrev s_Builder_init : Stmt := inClass (topS 41) 0
theorem sc_Builder_init : FnScope ["self"] ["self"] (defScope s_Builder_init) := ⟨rfl, rfl, rfl, by decide +kernel, rfl, by decide +kernel, by decide +kernel⟩
theorem w_Builder_init {f : Addr} {fd : FuncData} (B : Bi mg) (hsys : ∃ o es ep, base.get? sysModules = some o ∧ o.data = .dict es ep) (F : FunD K "__init__" "Builder.__init__" (defArgs s_Builder_init) (defBody s_Builder_init) (defScope s_Builder_init) [] [] f fd) (FO_Builder_steps : FldOk K "Builder" "steps") : FnG P w K mg base 1 f fd ["self"] (spV K 1 c_Builder_init) :=
  ok_sat (t := b_Builder_init) F sc_Builder_init hsys (fun cdv A ou s H E rn po tk => ss_one (s_fldO (i := 0) FO_Builder_steps (o_lst (es_nil)))) p_Builder_init
abbrev s_Builder___len__ : Stmt := inClass (topS 41) 1
theorem sc_Builder___len__ : FnScope ["self"] ["self"] (defScope s_Builder___len__) := ⟨rfl, rfl, rfl, by decide +kernel, rfl, by decide +kernel, by decide +kernel⟩
theorem w_Builder___len__ {f : Addr} {fd : FuncData} (B : Bi mg) (hsys : ∃ o es ep, base.get? sysModules = some o ∧ o.data = .dict es ep) (F : FunD K "__len__" "Builder.__len__" (defArgs s_Builder___len__) (defBody s_Builder___len__) (defScope s_Builder___len__) [] [] f fd) (FO_Builder_steps : FldOk K "Builder" "steps") : FnG P w K mg base 1 f fd ["self"] (spV K 1 c_Builder___len__) :=
  ok_sat (t := b_Builder___len__) F sc_Builder___len__ hsys (fun cdv A ou s H E rn po tk => ss_one (s_ret (e_flat (v_callB call_len bn_len (by rfl) B.len_ (by decide +kernel) (vs_cons (v_tfld 0 FO_Builder_steps (i := 0)) (vs_nil)))))) p_Builder___len__
abbrev s_Builder_latest : Stmt := inClass (topS 41) 3
theorem sc_Builder_latest : FnScope ["self"] ["self"] (defScope s_Builder_latest) := ⟨rfl, rfl, rfl, by decide +kernel, rfl, by decide +kernel, by decide +kernel⟩
theorem w_Builder_latest {f : Addr} {fd : FuncData} (B : Bi mg) (hsys : ∃ o es ep, base.get? sysModules = some o ∧ o.data = .dict es ep) (F : FunD K "latest" "Builder.latest" (defArgs s_Builder_latest) (defBody s_Builder_latest) (defScope s_Builder_latest) [] [] f fd) (FO_Builder_steps : FldOk K "Builder" "steps") : FnG P w K mg base 1 f fd ["self"] (spV K 1 c_Builder_latest) :=
  ok_sat (t := b_Builder_latest) F sc_Builder_latest hsys (fun cdv A ou s H E rn po tk => ss_one (s_ret (e_if (t_cmpV (op_neS rn.hr.units) b2_ne (v_tfld 0 FO_Builder_steps (i := 0)) (v_lst (vs_nil)) (nomark _)) (e_slice (e_fIx 0 FO_Builder_steps (v_un un_neg b1_neg (v_int)) (i := 0)) (px_some (e_int)) (px_no)) (e_tup (es_cons (e_frz (o_lst (es_nil))) (es_cons (e_frz (o_lst (es_nil))) (es_cons (e_int) (es_nil)))))))) p_Builder_latest
abbrev s_Builder_add_text : Stmt := inClass (topS 41) 4
theorem sc_Builder_add_text : FnScope ["self", "text", "before", "history", "escapes", "after", "blocks", "own", "run", "symbol", "count"] ["self", "text"] (defScope s_Builder_add_text) := ⟨rfl, rfl, rfl, by decide +kernel, rfl, by decide +kernel, by decide +kernel⟩
theorem w_Builder_add_text {f : Addr} {fd : FuncData} (B : Bi mg) (hsys : ∃ o es ep, base.get? sysModules = some o ∧ o.data = .dict es ep) (F : FunD K "add_text" "Builder.add_text" (defArgs s_Builder_add_text) (defBody s_Builder_add_text) (defScope s_Builder_add_text) [] [] f fd) (D_y_appended : DefC P w K mg base 5 "appended" ["text", "other"] [] c_y_appended) (D_add_block : DefC P w K mg base 1 "add_block" ["blocks", "symbol", "level", "count"] [] c_add_block) (FO_Builder_steps : FldOk K "Builder" "steps") (ME_Builder_latest : MethC P w K mg base 1 "Builder" "latest" ["self"] c_Builder_latest) : FnG P w K mg base 6 f fd ["self", "text"] (spV K 2 c_Builder_add_text) :=
  ok_sat (t := b_Builder_add_text) F sc_Builder_add_text hsys (fun cdv A ou s H E rn po tk => ss_cons (s_asg (e_methT0 0 ME_Builder_latest (rn.mono (by decide)) tk) (g_tup rfl (gs_cons (g_name (i := 2) sc_Builder_add_text.nd) (gs_cons (g_name (i := 3) sc_Builder_add_text.nd) (gs_cons (g_name (i := 4) sc_Builder_add_text.nd) (gs_nil) (hm := gm_name)) (hm := gm_name)) (hm := gm_name))))
      (ss_cons (s_set (i := 5) sc_Builder_add_text.nd (e_def D_y_appended (rn.mono (by decide)) tk (by rfl) (r_dat (ev 2) (r_dat (ev 1) (r_nil)))))
      (ss_cons (s_setO (i := 6) sc_Builder_add_text.nd (o_listA rfl (by rfl) B.list_ (es_cons (ev 3) (es_nil))))
      (ss_cons (by first | exact s_setLcD (i := 7) (own := [("run", 8)]) rfl sc_Builder_add_text.nd (i_any (ev 1)) (blkOk_by (show blkC ["self", "text", "before", "history", "escapes", "after", "blocks", "own", "run", "symbol", "count"] (defScope s_Builder_add_text) _ _ = true by decide +kernel)) (fun _ _ _ _ _ => si_name (i := 8) sc_Builder_add_text.nd) (fun _ _ _ _ _ => tx_nil) (fun _ _ _ _ _ => e_callT call_tuple_of bn_tuple (by rfl) B.tuple_ (by decide +kernel) (es_cons (ev 8) (es_nil))) | exact s_set (i := 7) sc_Builder_add_text.nd (e_frz (o_lc (own := [("run", 8)]) rfl sc_Builder_add_text.nd (i_any (ev 1)) (blkOk_by (show blkC ["self", "text", "before", "history", "escapes", "after", "blocks", "own", "run", "symbol", "count"] (defScope s_Builder_add_text) _ _ = true by decide +kernel)) (fun _ _ _ _ _ => si_name (i := 8) sc_Builder_add_text.nd) (fun _ _ _ _ _ => tx_nil) (fun _ _ _ _ _ => e_callT call_tuple_of bn_tuple (by rfl) B.tuple_ (by decide +kernel) (es_cons (ev 8) (es_nil))))))
      (ss_cons (s_for po rfl (i_any (ev 7)) (g_tup rfl (gs_cons (g_name (i := 9) sc_Builder_add_text.nd) (gs_cons (g_name (i := 10) sc_Builder_add_text.nd) (gs_nil) (hm := gm_name)) (hm := gm_name))) (ss_one (s_expr (e_def D_add_block (rn.mono (by decide)) tk (by rfl) (r_io 6 (r_dat (ev 9) (r_dat (e_int) (r_dat (ev 10) (r_nil)))))))))
      (ss_one (s_fApp 0 FO_Builder_steps (e_tup (es_cons (e_tup (es_cons (e_str) (es_cons (ev 7) (es_nil)))) (es_cons (ev 5) (es_cons (ev 6) (es_cons (ev 4) (es_nil)))))) (i := 0)))))))) p_Builder_add_text
abbrev s_Builder_escape_all : Stmt := inClass (topS 41) 5
theorem sc_Builder_escape_all : FnScope ["self", "times", "before", "history", "escapes", "blocks", "symbol", "level", "count"] ["self", "times"] (defScope s_Builder_escape_all) := ⟨rfl, rfl, rfl, by decide +kernel, rfl, by decide +kernel, by decide +kernel⟩
theorem w_Builder_escape_all {f : Addr} {fd : FuncData} (B : Bi mg) (hsys : ∃ o es ep, base.get? sysModules = some o ∧ o.data = .dict es ep) (F : FunD K "escape_all" "Builder.escape_all" (defArgs s_Builder_escape_all) (defBody s_Builder_escape_all) (defScope s_Builder_escape_all) [(.int 1)] [] f fd) (G_MAX_ESCAPES : GlC K mg "MAX_ESCAPES" (.int 200)) (D_is_integer : DefC P w K mg base 1 "is_integer" ["value", "low", "high"] [] c_is_integer) (D_escape : DefC P w K mg base 5 "escape" ["text", "times"] [] c_escape) (RA_InvalidNumber : RaiC K mg "InvalidNumber") (FO_Builder_steps : FldOk K "Builder" "steps") (ME_Builder_latest : MethC P w K mg base 1 "Builder" "latest" ["self"] c_Builder_latest) : FnG P w K mg base 6 f fd ["self", "times"] (spV K 2 c_Builder_escape_all) :=
  ok_sat (t := b_Builder_escape_all) F sc_Builder_escape_all hsys (fun cdv A ou s H E rn po tk => ss_cons (s_asg (e_methT0 0 ME_Builder_latest (rn.mono (by decide)) tk) (g_tup rfl (gs_cons (g_name (i := 2) sc_Builder_escape_all.nd) (gs_cons (g_name (i := 3) sc_Builder_escape_all.nd) (gs_cons (g_name (i := 4) sc_Builder_escape_all.nd) (gs_nil) (hm := gm_name)) (hm := gm_name)) (hm := gm_name))))
      (ss_cons (s_if (t_not (t_truV (v_def D_is_integer (rn.mono (by decide)) tk0 (by rfl) (vr_cons (vv 1) (vr_cons (v_int) (vr_cons (v_op op_sub b2_sub (v_glob G_MAX_ESCAPES (by rfl)) (vv 4)) (vr_nil))))))) (ss_one (s_raise0 rfl tk RA_InvalidNumber (by rfl))) (ss_nil))
      (ss_cons (by first | exact s_setLcD (i := 5) (own := [("symbol", 6), ("level", 7), ("count", 8)]) rfl sc_Builder_escape_all.nd (i_any (ev 3)) (blkOk_by (show blkC ["self", "times", "before", "history", "escapes", "blocks", "symbol", "level", "count"] (defScope s_Builder_escape_all) _ _ = true by decide +kernel)) (fun _ _ _ _ _ => si_tup rfl (sis_cons (si_name (i := 6) sc_Builder_escape_all.nd) (sis_cons (si_name (i := 7) sc_Builder_escape_all.nd) (sis_cons (si_name (i := 8) sc_Builder_escape_all.nd) (sis_nil) (hm := gm_name)) (hm := gm_name)) (hm := gm_name))) (fun _ _ _ _ _ => tx_nil) (fun _ _ _ _ _ => e_tup (es_cons (ev 6) (es_cons (e_op op_addB b2_addB (ev 7) (ev 1)) (es_cons (ev 8) (es_nil))))) | exact s_set (i := 5) sc_Builder_escape_all.nd (e_frz (o_lc (own := [("symbol", 6), ("level", 7), ("count", 8)]) rfl sc_Builder_escape_all.nd (i_any (ev 3)) (blkOk_by (show blkC ["self", "times", "before", "history", "escapes", "blocks", "symbol", "level", "count"] (defScope s_Builder_escape_all) _ _ = true by decide +kernel)) (fun _ _ _ _ _ => si_tup rfl (sis_cons (si_name (i := 6) sc_Builder_escape_all.nd) (sis_cons (si_name (i := 7) sc_Builder_escape_all.nd) (sis_cons (si_name (i := 8) sc_Builder_escape_all.nd) (sis_nil) (hm := gm_name)) (hm := gm_name)) (hm := gm_name))) (fun _ _ _ _ _ => tx_nil) (fun _ _ _ _ _ => e_tup (es_cons (ev 6) (es_cons (e_op op_addB b2_addB (ev 7) (ev 1)) (es_cons (ev 8) (es_nil))))))))
      (ss_one (s_fApp 0 FO_Builder_steps (e_tup (es_cons (e_tup (es_cons (e_str) (es_cons (ev 1) (es_nil)))) (es_cons (e_def D_escape (rn.mono (by decide)) tk (by rfl) (r_dat (ev 2) (r_dat (ev 1) (r_nil)))) (es_cons (ev 5) (es_cons (e_op op_addB b2_addB (ev 4) (ev 1)) (es_nil)))))) (i := 0)))))) p_Builder_escape_all
abbrev s_Builder_undo : Stmt := inClass (topS 41) 6
theorem sc_Builder_undo : FnScope ["self"] ["self"] (defScope s_Builder_undo) := ⟨rfl, rfl, rfl, by decide +kernel, rfl, by decide +kernel, by decide +kernel⟩
theorem w_Builder_undo {f : Addr} {fd : FuncData} (B : Bi mg) (hsys : ∃ o es ep, base.get? sysModules = some o ∧ o.data = .dict es ep) (F : FunD K "undo" "Builder.undo" (defArgs s_Builder_undo) (defBody s_Builder_undo) (defScope s_Builder_undo) [] [] f fd) (RA_NothingToUndo : RaiC K mg "NothingToUndo") (FO_Builder_steps : FldOk K "Builder" "steps") : FnG P w K mg base 1 f fd ["self"] (spV K 1 c_Builder_undo) :=
  ok_sat (t := b_Builder_undo) F sc_Builder_undo hsys (fun cdv A ou s H E rn po tk => ss_cons (s_if (t_cmpV (op_eqS rn.hr.units) b2_eq (v_tfld 0 FO_Builder_steps (i := 0)) (v_lst (vs_nil)) (nomark _)) (ss_one (s_raise0 rfl tk RA_NothingToUndo (by rfl))) (ss_nil))
      (ss_one (s_expr (e_fPop 0 FO_Builder_steps (i := 0))))) p_Builder_undo
abbrev s_Builder_current_text : Stmt := inClass (topS 41) 7
theorem sc_Builder_current_text : FnScope ["self"] ["self"] (defScope s_Builder_current_text) := ⟨rfl, rfl, rfl, by decide +kernel, rfl, by decide +kernel, by decide +kernel⟩
theorem w_Builder_current_text {f : Addr} {fd : FuncData} (B : Bi mg) (hsys : ∃ o es ep, base.get? sysModules = some o ∧ o.data = .dict es ep) (F : FunD K "current_text" "Builder.current_text" (defArgs s_Builder_current_text) (defBody s_Builder_current_text) (defScope s_Builder_current_text) [] [] f fd) (ME_Builder_latest : MethC P w K mg base 1 "Builder" "latest" ["self"] c_Builder_latest) : FnG P w K mg base 2 f fd ["self"] (spV K 1 c_Builder_current_text) :=
  ok_sat (t := b_Builder_current_text) F sc_Builder_current_text hsys (fun cdv A ou s H E rn po tk => ss_one (s_ret (e_frz (o_listA rfl (by rfl) B.list_ (es_cons (e_ix ix_seq b2_ix (e_methT0 0 ME_Builder_latest (rn.mono (by decide)) tk) (e_int) (fun _ _ => rfl)) (es_nil)))))) p_Builder_current_text
abbrev s_Builder_current_history : Stmt := inClass (topS 41) 8
theorem sc_Builder_current_history : FnScope ["self"] ["self"] (defScope s_Builder_current_history) := ⟨rfl, rfl, rfl, by decide +kernel, rfl, by decide +kernel, by decide +kernel⟩
theorem w_Builder_current_history {f : Addr} {fd : FuncData} (B : Bi mg) (hsys : ∃ o es ep, base.get? sysModules = some o ∧ o.data = .dict es ep) (F : FunD K "current_history" "Builder.current_history" (defArgs s_Builder_current_history) (defBody s_Builder_current_history) (defScope s_Builder_current_history) [] [] f fd) (ME_Builder_latest : MethC P w K mg base 1 "Builder" "latest" ["self"] c_Builder_latest) : FnG P w K mg base 2 f fd ["self"] (spV K 1 c_Builder_current_history) :=
  ok_sat (t := b_Builder_current_history) F sc_Builder_current_history hsys (fun cdv A ou s H E rn po tk => ss_one (s_ret (e_frz (o_listA rfl (by rfl) B.list_ (es_cons (e_ix ix_seq b2_ix (e_methT0 0 ME_Builder_latest (rn.mono (by decide)) tk) (e_int) (fun _ _ => rfl)) (es_nil)))))) p_Builder_current_history
abbrev s_Builder_escape_count : Stmt := inClass (topS 41) 9
theorem sc_Builder_escape_count : FnScope ["self"] ["self"] (defScope s_Builder_escape_count) := ⟨rfl, rfl, rfl, by decide +kernel, rfl, by decide +kernel, by decide +kernel⟩
theorem w_Builder_escape_count {f : Addr} {fd : FuncData} (B : Bi mg) (hsys : ∃ o es ep, base.get? sysModules = some o ∧ o.data = .dict es ep) (F : FunD K "escape_count" "Builder.escape_count" (defArgs s_Builder_escape_count) (defBody s_Builder_escape_count) (defScope s_Builder_escape_count) [] [] f fd) (ME_Builder_latest : MethC P w K mg base 1 "Builder" "latest" ["self"] c_Builder_latest) : FnG P w K mg base 2 f fd ["self"] (spV K 1 c_Builder_escape_count) :=
  ok_sat (t := b_Builder_escape_count) F sc_Builder_escape_count hsys (fun cdv A ou s H E rn po tk => ss_one (s_ret (e_ix ix_seq b2_ix (e_methT0 0 ME_Builder_latest (rn.mono (by decide)) tk) (e_int) (fun _ _ => rfl)))) p_Builder_escape_count
abbrev s_Builder_operations : Stmt := inClass (topS 41) 10
theorem sc_Builder_operations : FnScope ["self", "found", "operation", "text", "history", "escapes", "word", "value"] ["self"] (defScope s_Builder_operations) := ⟨rfl, rfl, rfl, by decide +kernel, rfl, by decide +kernel, by decide +kernel⟩
theorem w_Builder_operations {f : Addr} {fd : FuncData} (B : Bi mg) (hsys : ∃ o es ep, base.get? sysModules = some o ∧ o.data = .dict es ep) (F : FunD K "operations" "Builder.operations" (defArgs s_Builder_operations) (defBody s_Builder_operations) (defScope s_Builder_operations) [] [] f fd) (FO_Builder_steps : FldOk K "Builder" "steps") : FnG P w K mg base 1 f fd ["self"] (spV K 1 c_Builder_operations) :=
  ok_sat (t := b_Builder_operations) F sc_Builder_operations hsys (fun cdv A ou s H E rn po tk => ss_cons (s_setO (i := 1) sc_Builder_operations.nd (o_lst (es_nil)))
      (ss_cons (s_forF 0 FO_Builder_steps po rfl (g_tup rfl (gs_cons (g_name (i := 2) sc_Builder_operations.nd) (gs_cons (g_name (i := 3) sc_Builder_operations.nd) (gs_cons (g_name (i := 4) sc_Builder_operations.nd) (gs_cons (g_name (i := 5) sc_Builder_operations.nd) (gs_nil) (hm := gm_name)) (hm := gm_name)) (hm := gm_name)) (hm := gm_name))) (ss_cons (s_asg (ev 2) (g_tup rfl (gs_cons (g_name (i := 6) sc_Builder_operations.nd) (gs_cons (g_name (i := 7) sc_Builder_operations.nd) (gs_nil) (hm := gm_name)) (hm := gm_name))))
      (ss_one (s_app (i := 1) (e_tup (es_cons (ev 6) (es_cons (e_if (t_cmpV (op_eqS rn.hr.units) b2_eq (vv 6) (v_str) (nomark _)) (e_frz (o_listA rfl (by rfl) B.list_ (es_cons (ev 7) (es_nil)))) (ev 7)) (es_nil)))) (hp := fun _ h => pe_bm PySem.F.plainAttrs_list PySem.F.slot_list_append PySem.F.type_list_append mt_append (pv 1) (pa_cons h pa_nil))))) (i := 0))
      (ss_one (s_ret (ev 1))))) p_Builder_operations
abbrev s_Builder_state_after : Stmt := inClass (topS 41) 11
theorem sc_Builder_state_after : FnScope ["self", "count"] ["self", "count"] (defScope s_Builder_state_after) := ⟨rfl, rfl, rfl, by decide +kernel, rfl, by decide +kernel, by decide +kernel⟩
theorem w_Builder_state_after {f : Addr} {fd : FuncData} (B : Bi mg) (hsys : ∃ o es ep, base.get? sysModules = some o ∧ o.data = .dict es ep) (F : FunD K "state_after" "Builder.state_after" (defArgs s_Builder_state_after) (defBody s_Builder_state_after) (defScope s_Builder_state_after) [] [] f fd) (D_is_integer : DefC P w K mg base 1 "is_integer" ["value", "low", "high"] [] c_is_integer) (RA_InvalidNumber : RaiC K mg "InvalidNumber") (FO_Builder_steps : FldOk K "Builder" "steps") : FnG P w K mg base 2 f fd ["self", "count"] (spV K 2 c_Builder_state_after) :=
  ok_sat (t := b_Builder_state_after) F sc_Builder_state_after hsys (fun cdv A ou s H E rn po tk => ss_cons (s_if (t_not (t_truV (v_def D_is_integer (rn.mono (by decide)) tk0 (by rfl) (vr_cons (vv 1) (vr_cons (v_int) (vr_cons (v_callB call_len bn_len (by rfl) B.len_ (by decide +kernel) (vs_cons (v_tfld 0 FO_Builder_steps (i := 0)) (vs_nil))) (vr_nil))))))) (ss_one (s_raise0 rfl tk RA_InvalidNumber (by rfl))) (ss_nil))
      (ss_one (s_ret (e_if (t_cmpV op_gtA b2_ord (vv 1) (v_int) (nomark _)) (e_frz (o_listA rfl (by rfl) B.list_ (es_cons (e_ix ix_seq b2_ix (e_fIx 0 FO_Builder_steps (v_op op_sub b2_sub (vv 1) (v_int)) (i := 0)) (e_int) (fun _ _ => rfl)) (es_nil)))) (e_frz (o_lst (es_nil))))))) p_Builder_state_after
abbrev s_l_spring : Stmt := topS 43
theorem sc_l_spring : FnScope ["_law_script", "_law_digits", "_law_seed", "_law_cell"] ["_law_script"] (defScope s_l_spring) := ⟨rfl, rfl, rfl, by decide +kernel, rfl, by decide +kernel, by decide +kernel⟩
theorem w_l_spring {f : Addr} {fd : FuncData} (B : Bi mg) (hsys : ∃ o es ep, base.get? sysModules = some o ∧ o.data = .dict es ep) (F : FunD K "_law_spring" "_law_spring" (defArgs s_l_spring) (defBody s_l_spring) (defScope s_l_spring) [] [] f fd) : FnG P w K mg base 1 f fd ["_law_script"] (spV K 1 c_l_spring) :=
  ok_sat (t := b_l_spring) F sc_l_spring hsys (fun cdv A ou s H E rn po tk => ss_cons (s_set (i := 1) sc_l_spring.nd (e_int))
      (ss_cons (s_set (i := 2) sc_l_spring.nd (e_int))
      (ss_cons (s_for po rfl (i_any (e_slice (ev 0) (px_no) (px_some (e_int)))) (g_name (i := 3) sc_l_spring.nd) (ss_cons (s_if (t_cmpV op_geA b2_ord (v_callB call_abs bn_abs (by rfl) B.abs_ (by decide +kernel) (vs_cons (vv 3) (vs_nil))) (v_op op_pow b2_pow (v_int) (v_int)) (nomark _)) (ss_one (s_set (i := 1) sc_l_spring.nd (e_op op_addB b2_addB (e_op op_mulB b2_mulB (ev 1) (e_op op_pow b2_pow (e_int) (e_int))) (e_op op_mod b2_mod (e_callB call_abs bn_abs (by rfl) B.abs_ (by decide +kernel) (es_cons (ev 3) (es_nil))) (e_op op_pow b2_pow (e_int) (e_int)))))) (ss_nil))
      (ss_one (s_set (i := 2) sc_l_spring.nd (e_op op_mod b2_mod (e_op op_addB b2_addB (e_op op_addB b2_addB (e_op op_mulB b2_mulB (ev 2) (e_int)) (e_op op_mod b2_mod (ev 3) (e_int))) (e_int)) (e_int))))))
      (ss_one (s_retO (o_lst (es_cons (ev 1) (es_cons (ev 2) (es_cons (e_int) (es_nil)))))))))) p_l_spring
abbrev s_s_draw : Stmt := topS 44
theorem sc_s_draw : FnScope ["_law_spring_here", "_law_many", "_law_found", "_law_mix"] ["_law_spring_here", "_law_many"] (defScope s_s_draw) := ⟨rfl, rfl, rfl, by decide +kernel, rfl, by decide +kernel, by decide +kernel⟩
theorem w_s_draw {f : Addr} {fd : FuncData} (B : Bi mg) (hsys : ∃ o es ep, base.get? sysModules = some o ∧ o.data = .dict es ep) (F : FunD K "_law_draw" "_law_draw" (defArgs s_s_draw) (defBody s_s_draw) (defScope s_s_draw) [] [] f fd) : FnG P w K mg base 1 f fd ["_law_spring_here", "_law_many"] (spV K 2 c_s_draw) :=
  ok_sat (t := b_s_draw) F sc_s_draw hsys (fun cdv A ou s H E rn po tk => ss_cons (s_if (t_cmpV op_gtA b2_ord (v_ix ix_seq b2_ix (vv 0) (v_int) (fun _ _ => rfl)) (v_int) (nomark _)) (ss_cons (s_set (i := 2) sc_s_draw.nd (e_op op_mod b2_mod (e_ownIx 0 (e_int) (fun _ _ => rfl)) (ev 1)))
      (ss_cons (s_put (i := 0) (e_op op_fdivW b2_div (e_ownIx 0 (e_int) (fun _ _ => rfl)) (ev 1)) (e_int))
      (ss_one (s_ret (ev 2))))) (ss_nil))
      (ss_cons (s_put (i := 0) (e_op op_addB b2_addB (e_ownIx 0 (e_int) (fun _ _ => rfl)) (e_int)) (e_int))
      (ss_cons (s_set (i := 3) sc_s_draw.nd (e_op op_mod b2_mod (e_op op_mulB b2_mulB (e_ownIx 0 (e_int) (fun _ _ => rfl)) (e_ownIx 0 (e_int) (fun _ _ => rfl))) (e_int)))
      (ss_cons (s_put (i := 0) (e_op op_mod b2_mod (e_op op_addB b2_addB (e_op op_addB b2_addB (ev 3) (e_op op_mulB b2_mulB (e_op op_mulB b2_mulB (e_int) (e_ownIx 0 (e_int) (fun _ _ => rfl))) (e_ownIx 0 (e_int) (fun _ _ => rfl)))) (e_int)) (e_int)) (e_int))
      (ss_one (s_ret (e_op op_mod b2_mod (e_op op_fdivW b2_div (e_ownIx 0 (e_int) (fun _ _ => rfl)) (e_int)) (ev 1)))))))) p_s_draw
abbrev s_l_class : Stmt := topS 45
theorem sc_l_class : FnScope ["_law_caught", "_law_found", "_law_is_base"] ["_law_caught"] (defScope s_l_class) := ⟨rfl, rfl, rfl, by decide +kernel, rfl, by decide +kernel, by decide +kernel⟩
theorem w_l_class {f : Addr} {fd : FuncData} (B : Bi mg) (hsys : ∃ o es ep, base.get? sysModules = some o ∧ o.data = .dict es ep) (F : FunD K "_law_class" "_law_class" (defArgs s_l_class) (defBody s_l_class) (defScope s_l_class) [] [] f fd) (IS_InvalidText : IsiC K mg "InvalidText" cl_InvalidText) (IS_InvalidNumber : IsiC K mg "InvalidNumber" cl_InvalidNumber) (IS_InvalidFacts : IsiC K mg "InvalidFacts" cl_InvalidFacts) (IS_InvalidHistory : IsiC K mg "InvalidHistory" cl_InvalidHistory) (IS_InvalidPosition : IsiC K mg "InvalidPosition" cl_InvalidPosition) (IS_Contradiction : IsiC K mg "Contradiction" cl_Contradiction) (IS_TooLong : IsiC K mg "TooLong" cl_TooLong) (IS_NothingToUndo : IsiC K mg "NothingToUndo" cl_NothingToUndo) (IS_InvalidCommand : IsiC K mg "InvalidCommand" cl_InvalidCommand) (IS_InvalidScript : IsiC K mg "InvalidScript" cl_InvalidScript) (IS_InvalidSymbols : IsiC K mg "InvalidSymbols" cl_InvalidSymbols) (IS_NoMove : IsiC K mg "NoMove" cl_NoMove) (IS_NotEscaped : IsiC K mg "NotEscaped" cl_NotEscaped) (IS_ParseError : IsiC K mg "ParseError" cl_ParseError) (IS_SlashError : IsiC K mg "SlashError" cl_SlashError) (KV : KitE K (.type "ValueError") cl_ValueError) : FnG P w K mg base 1 f fd ["_law_caught"] (spV K 1 c_l_class) :=
  ok_sat (t := b_l_class) F sc_l_class hsys (fun cdv A ou s H E rn po tk => ss_cons (s_setO (i := 1) sc_l_class.nd (o_lst (es_nil)))
      (ss_cons (s_if (t_truV (v_isX IS_InvalidText (by rfl) (by rfl) B.isinstance_ (vv 0))) (ss_one (s_app (i := 1) (e_str) (hp := fun _ h => pe_bm PySem.F.plainAttrs_list PySem.F.slot_list_append PySem.F.type_list_append mt_append (pv 1) (pa_cons h pa_nil)))) (ss_nil))
      (ss_cons (s_if (t_truV (v_isX IS_InvalidNumber (by rfl) (by rfl) B.isinstance_ (vv 0))) (ss_one (s_app (i := 1) (e_str) (hp := fun _ h => pe_bm PySem.F.plainAttrs_list PySem.F.slot_list_append PySem.F.type_list_append mt_append (pv 1) (pa_cons h pa_nil)))) (ss_nil))
      (ss_cons (s_if (t_truV (v_isX IS_InvalidFacts (by rfl) (by rfl) B.isinstance_ (vv 0))) (ss_one (s_app (i := 1) (e_str) (hp := fun _ h => pe_bm PySem.F.plainAttrs_list PySem.F.slot_list_append PySem.F.type_list_append mt_append (pv 1) (pa_cons h pa_nil)))) (ss_nil))
      (ss_cons (s_if (t_truV (v_isX IS_InvalidHistory (by rfl) (by rfl) B.isinstance_ (vv 0))) (ss_one (s_app (i := 1) (e_str) (hp := fun _ h => pe_bm PySem.F.plainAttrs_list PySem.F.slot_list_append PySem.F.type_list_append mt_append (pv 1) (pa_cons h pa_nil)))) (ss_nil))
      (ss_cons (s_if (t_truV (v_isX IS_InvalidPosition (by rfl) (by rfl) B.isinstance_ (vv 0))) (ss_one (s_app (i := 1) (e_str) (hp := fun _ h => pe_bm PySem.F.plainAttrs_list PySem.F.slot_list_append PySem.F.type_list_append mt_append (pv 1) (pa_cons h pa_nil)))) (ss_nil))
      (ss_cons (s_if (t_truV (v_isX IS_Contradiction (by rfl) (by rfl) B.isinstance_ (vv 0))) (ss_one (s_app (i := 1) (e_str) (hp := fun _ h => pe_bm PySem.F.plainAttrs_list PySem.F.slot_list_append PySem.F.type_list_append mt_append (pv 1) (pa_cons h pa_nil)))) (ss_nil))
      (ss_cons (s_if (t_truV (v_isX IS_TooLong (by rfl) (by rfl) B.isinstance_ (vv 0))) (ss_one (s_app (i := 1) (e_str) (hp := fun _ h => pe_bm PySem.F.plainAttrs_list PySem.F.slot_list_append PySem.F.type_list_append mt_append (pv 1) (pa_cons h pa_nil)))) (ss_nil))
      (ss_cons (s_if (t_truV (v_isX IS_NothingToUndo (by rfl) (by rfl) B.isinstance_ (vv 0))) (ss_one (s_app (i := 1) (e_str) (hp := fun _ h => pe_bm PySem.F.plainAttrs_list PySem.F.slot_list_append PySem.F.type_list_append mt_append (pv 1) (pa_cons h pa_nil)))) (ss_nil))
      (ss_cons (s_if (t_truV (v_isEs IS_InvalidCommand (by rfl) (isl_cons IS_InvalidScript (by rfl) (isl_cons IS_InvalidSymbols (by rfl) (isl_cons IS_NoMove (by rfl) (isl_cons IS_NotEscaped (by rfl) (isl_cons IS_ParseError (by rfl) (isl_nil)))))) (by rfl) B.isinstance_ (vv 0))) (ss_one (s_app (i := 1) (e_str) (hp := fun _ h => pe_bm PySem.F.plainAttrs_list PySem.F.slot_list_append PySem.F.type_list_append mt_append (pv 1) (pa_cons h pa_nil)))) (ss_nil))
      (ss_cons (s_set (i := 2) sc_l_class.nd (e_and (e_flat (v_isX IS_SlashError (by rfl) (by rfl) B.isinstance_ (vv 0))) (e_one (e_flat (v_isXB (T := "ValueError") KV (by rfl) B.ValueError_ (by decide +kernel) (by rfl) B.isinstance_ (vv 0))))))
      (ss_one (s_ret (e_if (tw (tw_and (t_truV (vv 2)) (tw_and1 (t_cmpV (op_eqS rn.hr.units) b2_eq (v_callB call_len bn_len (by rfl) B.len_ (by decide +kernel) (vs_cons (vv 1) (vs_nil))) (v_int) (nomark _))))) (e_ownIx 1 (e_int) (fun _ _ => rfl)) (e_str))))))))))))))) p_l_class
abbrev s_q_bad_text : Stmt := topS 46
theorem sc_q_bad_text : FnScope ["_law_spring_here", "_law_some"] ["_law_spring_here"] (defScope s_q_bad_text) := ⟨rfl, rfl, rfl, by decide +kernel, rfl, by decide +kernel, by decide +kernel⟩
theorem w_q_bad_text {f : Addr} {fd : FuncData} (B : Bi mg) (hsys : ∃ o es ep, base.get? sysModules = some o ∧ o.data = .dict es ep) (F : FunD K "_law_bad_text" "_law_bad_text" (defArgs s_q_bad_text) (defBody s_q_bad_text) (defScope s_q_bad_text) [] [] f fd) (D_s_draw : DefC P w K mg base 1 "_law_draw" ["_law_spring_here", "_law_many"] [] c_s_draw) : FnG P w K mg base 2 f fd ["_law_spring_here"] (spV K 1 c_q_bad_text) :=
  ok_sat (t := b_q_bad_text) F sc_q_bad_text hsys (fun cdv A ou s H E rn po tk => ss_cons (s_set (i := 1) sc_q_bad_text.nd (e_frz (o_lst (es_cons (e_non) (es_cons (e_int) (es_cons (e_str) (es_cons (e_dic) (es_cons (e_frz (o_lst (es_cons (e_non) (es_nil)))) (es_cons (e_frz (o_lst (es_cons (e_tup (es_cons (e_str) (es_cons (e_int) (es_nil)))) (es_nil)))) (es_cons (e_frz (o_lst (es_cons (e_tup (es_cons (e_str) (es_cons (e_int) (es_nil)))) (es_nil)))) (es_cons (e_frz (o_lst (es_cons (e_tup (es_cons (e_str) (es_cons (e_int) (es_nil)))) (es_nil)))) (es_cons (e_frz (o_lst (es_cons (e_tup (es_cons (e_str) (es_cons (e_bl) (es_nil)))) (es_nil)))) (es_cons (e_frz (o_lst (es_cons (e_tup (es_cons (e_str) (es_cons (e_int) (es_nil)))) (es_cons (e_tup (es_cons (e_str) (es_cons (e_int) (es_nil)))) (es_nil))))) (es_cons (e_bl) (es_nil)))))))))))))))
      (ss_cons (s_set (i := 1) sc_q_bad_text.nd (e_op op_addB b2_addB (ev 1) (e_frz (o_lst (es_cons (e_frz (o_lst (es_cons (e_tup (es_cons (e_str) (es_nil))) (es_nil)))) (es_cons (e_frz (o_lst (es_cons (e_tup (es_cons (e_str) (es_cons (e_int) (es_cons (e_int) (es_nil))))) (es_nil)))) (es_cons (e_tup (es_cons (e_str) (es_cons (e_int) (es_nil)))) (es_cons (e_frz (o_lst (es_cons (e_tup (es_cons (e_str) (es_cons (e_int) (es_nil)))) (es_nil)))) (es_cons (e_frz (o_lst (es_cons (e_tup (es_cons (e_int) (es_cons (e_int) (es_nil)))) (es_nil)))) (es_cons (e_frz (o_lst (es_cons (e_tup (es_cons (e_str) (es_cons (e_str) (es_nil)))) (es_nil)))) (es_cons (e_frz (o_lst (es_cons (e_tup (es_cons (e_str) (es_cons (e_un un_neg b1_neg (e_int)) (es_nil)))) (es_nil)))) (es_cons (e_frz (o_lst (es_cons (e_str) (es_nil)))) (es_nil)))))))))))))
      (ss_one (s_ret (e_ix ix_seq b2_ix (e_op op_addB b2_addB (ev 1) (e_frz (o_lst (es_cons (e_frz (o_lst (es_cons (e_tup (es_cons (e_str) (es_cons (e_int) (es_nil)))) (es_nil)))) (es_cons (e_frz (o_lst (es_cons (e_tup (es_cons (e_non) (es_cons (e_int) (es_nil)))) (es_nil)))) (es_nil)))))) (e_def D_s_draw (rn.mono (by decide)) tk (by rfl) (r_io 0 (r_dat (e_int) (r_nil)))) (fun _ _ => rfl)))))) p_q_bad_text
abbrev s_l_asked : Stmt := topS 50
theorem sc_l_asked : FnScope ["_law_ask", "_law_builder", "_law_value", "_law_caught", "e"] ["_law_ask", "_law_builder", "_law_value"] (defScope s_l_asked) := ⟨rfl, rfl, rfl, by decide +kernel, rfl, by decide +kernel, by decide +kernel⟩
theorem w_l_asked {f : Addr} {fd : FuncData} (B : Bi mg) (hsys : ∃ o es ep, base.get? sysModules = some o ∧ o.data = .dict es ep) (F : FunD K "_law_asked" "_law_asked" (defArgs s_l_asked) (defBody s_l_asked) (defScope s_l_asked) [] [] f fd) (D_l_class : DefC P w K mg base 1 "_law_class" ["_law_caught"] [] c_l_class) (HN_SlashError : HndC K mg "SlashError" cl_SlashError) (ME_Builder_add_text : MethC P w K mg base 6 "Builder" "add_text" ["self", "text"] c_Builder_add_text) (ME_Builder_escape_all : MethC P w K mg base 6 "Builder" "escape_all" ["self", "times"] c_Builder_escape_all) (ME_Builder_state_after : MethC P w K mg base 2 "Builder" "state_after" ["self", "count"] c_Builder_state_after) (ME_Builder_undo : MethC P w K mg base 1 "Builder" "undo" ["self"] c_Builder_undo) : FnG P w K mg base 7 f fd ["_law_ask", "_law_builder", "_law_value"] (spV K 3 c_l_asked) :=
  ok_sat (t := b_l_asked) F sc_l_asked hsys (fun cdv A ou s H E rn po tk => ss_cons (s_set (i := 3) sc_l_asked.nd (e_non))
      (ss_cons (s_try (i := 4) sc_l_asked.nd HN_SlashError tk (by rfl) (fun W' pn' xe' tk' po' => ss_one (s_if (t_cmpV (op_eqS rn.tr.hr.units) b2_eq (vv 0) (v_int) (nomark _)) (ss_one (s_expr (e_methT 1 ME_Builder_add_text (rn.tr.mono (by decide)) tk' (r_dat (ev 2) (r_nil))))) (ss_one (s_if (t_cmpV (op_eqS rn.tr.hr.units) b2_eq (vv 0) (v_int) (nomark _)) (ss_one (s_expr (e_methT 1 ME_Builder_escape_all (rn.tr.mono (by decide)) tk' (r_dat (ev 2) (r_nil))))) (ss_one (s_if (t_cmpV (op_eqS rn.tr.hr.units) b2_eq (vv 0) (v_int) (nomark _)) (ss_one (s_expr (e_methT 1 ME_Builder_state_after (rn.tr.mono (by decide)) tk' (r_dat (ev 2) (r_nil))))) (ss_one (s_expr (e_methT0 1 ME_Builder_undo (rn.tr.mono (by decide)) tk'))))))))) (fun a' pn' => ss_one (s_set (i := 3) sc_l_asked.nd (ev 4))))
      (ss_one (s_ret (e_if (t_cmpV op_isN b2_isN (vv 3) (v_non) (nomark _)) (e_str) (e_def D_l_class (rn.mono (by decide)) tk (by rfl) (r_dat (ev 3) (r_nil)))))))) p_l_asked
abbrev s_l_classes_right : Stmt := topS 51
theorem sc_l_classes_right : FnScope ["_law_made", "_law_names", "_law_odd", "_law_one", "_law_fields"] [] (defScope s_l_classes_right) := ⟨rfl, rfl, rfl, by decide +kernel, rfl, by decide +kernel, by decide +kernel⟩
theorem w_l_classes_right {f : Addr} {fd : FuncData} (B : Bi mg) (hsys : ∃ o es ep, base.get? sysModules = some o ∧ o.data = .dict es ep) (F : FunD K "_law_classes_right" "_law_classes_right" (defArgs s_l_classes_right) (defBody s_l_classes_right) (defScope s_l_classes_right) [] [] f fd) (D_l_class : DefC P w K mg base 1 "_law_class" ["_law_caught"] [] c_l_class) (RA_InvalidText : RaiC K mg "InvalidText") (RA_InvalidNumber : RaiC K mg "InvalidNumber") (RA_InvalidFacts : RaiC K mg "InvalidFacts") (RA_InvalidHistory : RaiC K mg "InvalidHistory") (RA_InvalidPosition : RaiC K mg "InvalidPosition") (RA_InvalidCommand : RaiC K mg "InvalidCommand") (RA_InvalidScript : RaiC K mg "InvalidScript") (RA_InvalidSymbols : RaiC K mg "InvalidSymbols") (RA_NoMove : RaiC K mg "NoMove") (RA_NothingToUndo : RaiC K mg "NothingToUndo") (RF_NotEscaped : RaiF P w K mg base 1 "NotEscaped" "position") (RF_ParseError : RaiF P w K mg base 1 "ParseError" "index") (RF_Contradiction : RaiF P w K mg base 1 "Contradiction" "indices") (RF_TooLong : RaiF P w K mg base 1 "TooLong" "length") (IS_SlashError : IsiC K mg "SlashError" cl_SlashError) (XF_Contradiction_indices : XfOk K "Contradiction" "indices") (XF_TooLong_length : XfOk K "TooLong" "length") (XF_NotEscaped_position : XfOk K "NotEscaped" "position") (XF_ParseError_index : XfOk K "ParseError" "index") : FnG P w K mg base 3 f fd [] (spV K 0 c_l_classes_right) :=
  ok_sat (t := b_l_classes_right) F sc_l_classes_right hsys (fun cdv A ou s H E rn po tk => ss_cons (s_set (i := 0) sc_l_classes_right.nd (e_frz (o_lst (es_cons (e_exc0 RA_InvalidText (by rfl)) (es_cons (e_exc0 RA_InvalidNumber (by rfl)) (es_cons (e_exc0 RA_InvalidFacts (by rfl)) (es_cons (e_exc0 RA_InvalidHistory (by rfl)) (es_cons (e_exc0 RA_InvalidPosition (by rfl)) (es_nil)))))))))
      (ss_cons (s_set (i := 1) sc_l_classes_right.nd (e_frz (o_lst (es_cons (e_str) (es_cons (e_str) (es_cons (e_str) (es_cons (e_str) (es_cons (e_str) (es_cons (e_str) (es_nil))))))))))
      (ss_cons (s_set (i := 0) sc_l_classes_right.nd (e_op op_addB b2_addB (ev 0) (e_frz (o_lst (es_cons (e_exc1 tk RF_Contradiction (rn.mono (by decide)) (e_tup (es_cons (e_int) (es_cons (e_int) (es_nil)))) (by rfl)) (es_cons (e_exc1 tk RF_TooLong (rn.mono (by decide)) (e_int) (by rfl)) (es_cons (e_exc0 RA_NothingToUndo (by rfl)) (es_nil))))))))
      (ss_cons (s_set (i := 2) sc_l_classes_right.nd (e_frz (o_lst (es_cons (e_exc0 RA_InvalidCommand (by rfl)) (es_cons (e_exc0 RA_InvalidScript (by rfl)) (es_cons (e_exc0 RA_InvalidSymbols (by rfl)) (es_cons (e_exc0 RA_NoMove (by rfl)) (es_cons (e_exc1 tk RF_NotEscaped (rn.mono (by decide)) (e_int) (by rfl)) (es_cons (e_exc1 tk RF_ParseError (rn.mono (by decide)) (e_non) (by rfl)) (es_nil))))))))))
      (ss_cons (s_if (t_cmp (op_neS rn.hr.units) b2_ne (e_frz (o_lc (own := [("_law_one", 3)]) rfl sc_l_classes_right.nd (i_any (ev 0)) (blkOk_by (show blkC ["_law_made", "_law_names", "_law_odd", "_law_one", "_law_fields"] (defScope s_l_classes_right) _ _ = true by decide +kernel)) (fun _ _ _ _ _ => si_name (i := 3) sc_l_classes_right.nd) (fun _ _ _ _ _ => tx_nil) (fun _ _ _ _ _ => e_def D_l_class (rn.blk.mono (by decide)) tk0 (by rfl) (r_dat (ev 3) (r_nil))))) (e_op op_addB b2_addB (ev 1) (e_frz (o_lst (es_cons (e_str) (es_cons (e_str) (es_nil)))))) (nomark _)) (ss_one (s_ret (e_bl))) (ss_nil))
      (ss_cons (s_if (tw (tw_or (t_cmp (op_neS rn.hr.units) b2_ne (e_frz (o_lc (own := [("_law_one", 3)]) rfl sc_l_classes_right.nd (i_any (ev 2)) (blkOk_by (show blkC ["_law_made", "_law_names", "_law_odd", "_law_one", "_law_fields"] (defScope s_l_classes_right) _ _ = true by decide +kernel)) (fun _ _ _ _ _ => si_name (i := 3) sc_l_classes_right.nd) (fun _ _ _ _ _ => tx_nil) (fun _ _ _ _ _ => e_def D_l_class (rn.blk.mono (by decide)) tk0 (by rfl) (r_dat (ev 3) (r_nil))))) (e_frz (o_rep (o_lst (es_cons (e_str) (es_nil))) (e_int))) (nomark _)) (tw_or1 (t_cmp (op_neS rn.hr.units) b2_ne (e_frz (o_lc (own := [("_law_one", 3)]) rfl sc_l_classes_right.nd (i_any (ev 2)) (blkOk_by (show blkC ["_law_made", "_law_names", "_law_odd", "_law_one", "_law_fields"] (defScope s_l_classes_right) _ _ = true by decide +kernel)) (fun _ _ _ _ _ => si_name (i := 3) sc_l_classes_right.nd) (fun _ _ _ _ _ => tx_one (t_not (t_truV (v_isX IS_SlashError (by rfl) (by rfl) B.isinstance_ (vv 3))))) (fun _ _ _ _ _ => ev 3))) (e_frz (o_lst (es_nil))) (nomark _))))) (ss_one (s_ret (e_bl))) (ss_nil))
      (ss_cons (s_set (i := 4) sc_l_classes_right.nd (e_frz (o_lst (es_cons (e_xfld XF_Contradiction_indices (e_exc1 tk RF_Contradiction (rn.mono (by decide)) (e_tup (es_cons (e_int) (es_cons (e_int) (es_nil)))) (by rfl))) (es_cons (e_xfld XF_TooLong_length (e_exc1 tk RF_TooLong (rn.mono (by decide)) (e_int) (by rfl))) (es_cons (e_xfld XF_NotEscaped_position (e_exc1 tk RF_NotEscaped (rn.mono (by decide)) (e_int) (by rfl))) (es_cons (e_xfld XF_ParseError_index (e_exc1 tk RF_ParseError (rn.mono (by decide)) (e_non) (by rfl))) (es_nil))))))))
      (ss_one (s_ret (e_cmp (op_eqS rn.hr.units) b2_eq (ev 4) (e_frz (o_lst (es_cons (e_tup (es_cons (e_int) (es_cons (e_int) (es_nil)))) (es_cons (e_int) (es_cons (e_int) (es_cons (e_non) (es_nil))))))) (nomark _))))))))))) p_l_classes_right
abbrev s_law : Stmt := topS 52
theorem sc_law : FnScope ["_law_script", "_law_spring_here", "_law_turn", "_law_builder", "_law_escapes", "_law_move", "_law_more", "_law_bad", "_law_odd", "_law_spot", "_law_rows", "_law_before", "_law_ask", "_law_value", "_law_due"] ["_law_script"] (defScope s_law) := ⟨rfl, rfl, rfl, by decide +kernel, rfl, by decide +kernel, by decide +kernel⟩
theorem w_law {f : Addr} {fd : FuncData} (B : Bi mg) (hsys : ∃ o es ep, base.get? sysModules = some o ∧ o.data = .dict es ep) (F : FunD K "law" "law" (defArgs s_law) (defBody s_law) (defScope s_law) [] [] f fd) (D_l_spring : DefC P w K mg base 1 "_law_spring" ["_law_script"] [] c_l_spring) (D_l_classes_right : DefC P w K mg base 3 "_law_classes_right" [] [] c_l_classes_right) (D_q_bad_text : DefC P w K mg base 2 "_law_bad_text" ["_law_spring_here"] [] c_q_bad_text) (D_s_draw : DefC P w K mg base 1 "_law_draw" ["_law_spring_here", "_law_many"] [] c_s_draw) (D_l_asked : DefC P w K mg base 7 "_law_asked" ["_law_ask", "_law_builder", "_law_value"] [] c_l_asked) (M_Builder : MkI P w K mg base 1 "Builder" ["self"] c_Builder_init) (ME_Builder___len__ : MethC P w K mg base 1 "Builder" "__len__" ["self"] c_Builder___len__) (ME_Builder_add_text : MethC P w K mg base 6 "Builder" "add_text" ["self", "text"] c_Builder_add_text) (ME_Builder_escape_all : MethC P w K mg base 6 "Builder" "escape_all" ["self", "times"] c_Builder_escape_all) (ME_Builder_operations : MethC P w K mg base 1 "Builder" "operations" ["self"] c_Builder_operations) (ME_Builder_current_text : MethC P w K mg base 2 "Builder" "current_text" ["self"] c_Builder_current_text) (ME_Builder_current_history : MethC P w K mg base 2 "Builder" "current_history" ["self"] c_Builder_current_history) (ME_Builder_escape_count : MethC P w K mg base 2 "Builder" "escape_count" ["self"] c_Builder_escape_count) : FnG P w K mg base 8 f fd ["_law_script"] (spV K 1 lawC) :=
  ok_sat (t := b_law) F sc_law hsys (fun cdv A ou s H E rn po tk => ss_cons (s_setO (i := 1) sc_law.nd (o_def D_l_spring (rn.mono (by decide)) tk (by rfl) (r_dat (ev 0) (r_nil))))
      (ss_cons (s_if (t_not (t_tru (e_def0 D_l_classes_right (rn.mono (by decide)) tk (by rfl)))) (ss_one (s_ret (e_bl))) (ss_nil))
      (ss_cons (s_for po rfl (i_range1 (by rfl) B.range_ (es_cons (e_op op_addB b2_addB (e_int) (e_callB (call_min2 rfl) bn_min (by rfl) B.min_ (by decide +kernel) (es_cons (e_callB call_len bn_len (by rfl) B.len_ (by decide +kernel) (es_cons (ev 0) (es_nil))) (es_cons (e_int) (es_nil))))) (es_nil))) (g_name (i := 2) sc_law.nd) (ss_cons (s_mkD (i := 3) (j := 4) rfl M_Builder (rn.mono (by decide)) rfl (by rfl) sc_law.nd (e_int))
      (ss_cons (s_for po rfl (i_range1 (by rfl) B.range_ (es_cons (e_def D_s_draw (rn.mono (by decide)) tk (by rfl) (r_io 1 (r_dat (e_int) (r_nil)))) (es_nil))) (g_name (i := 5) sc_law.nd) (ss_one (s_if (t_cmp (op_eqS rn.hr.units) b2_eq (e_def D_s_draw (rn.mono (by decide)) tk (by rfl) (r_io 1 (r_dat (e_int) (r_nil)))) (e_int) (nomark _)) (ss_one (s_expr (e_methT 3 ME_Builder_add_text (rn.mono (by decide)) tk (r_dat (e_frz (o_lst (es_cons (e_tup (es_cons (e_str) (es_cons (e_op op_addB b2_addB (e_int) (e_def D_s_draw (rn.mono (by decide)) tk (by rfl) (r_io 1 (r_dat (e_int) (r_nil))))) (es_nil)))) (es_cons (e_tup (es_cons (e_str) (es_cons (e_int) (es_nil)))) (es_nil))))) (r_nil))))) (ss_cons (s_set (i := 6) sc_law.nd (e_def D_s_draw (rn.mono (by decide)) tk (by rfl) (r_io 1 (r_dat (e_ix ix_seq b2_ix (e_frz (o_lst (es_cons (e_int) (es_cons (e_op op_sub b2_sub (e_int) (ev 4)) (es_nil))))) (e_def D_s_draw (rn.mono (by decide)) tk (by rfl) (r_io 1 (r_dat (e_int) (r_nil)))) (fun _ _ => rfl)) (r_nil)))))
      (ss_cons (s_set (i := 6) sc_law.nd (e_callB (call_min2 rfl) bn_min (by rfl) B.min_ (by decide +kernel) (es_cons (ev 6) (es_cons (e_op op_sub b2_sub (e_int) (ev 4)) (es_nil)))))
      (ss_cons (s_expr (e_methT 3 ME_Builder_escape_all (rn.mono (by decide)) tk (r_dat (ev 6) (r_nil))))
      (ss_one (s_set (i := 4) sc_law.nd (e_op op_addB b2_addB (ev 4) (ev 6))))))))))
      (ss_cons (s_set (i := 7) sc_law.nd (e_def D_q_bad_text (rn.mono (by decide)) tk (by rfl) (r_io 1 (r_nil))))
      (ss_cons (s_set (i := 8) sc_law.nd (e_ix ix_seq b2_ix (e_frz (o_lst (es_cons (e_un un_neg b1_neg (e_int)) (es_cons (e_op op_sub b2_sub (e_int) (ev 4)) (es_cons (e_int) (es_cons (e_non) (es_cons (e_bl) (es_cons (e_str) (es_cons (e_frz (o_lst (es_cons (e_int) (es_nil)))) (es_cons (e_op op_pow b2_pow (e_int) (e_int)) (es_cons (e_bl) (es_nil)))))))))))) (e_def D_s_draw (rn.mono (by decide)) tk (by rfl) (r_io 1 (r_dat (e_int) (r_nil)))) (fun _ _ => rfl)))
      (ss_cons (s_set (i := 9) sc_law.nd (e_ix ix_seq b2_ix (e_frz (o_lst (es_cons (e_un un_neg b1_neg (e_int)) (es_cons (e_op op_addB b2_addB (e_lenT 3 ME_Builder___len__ (rn.mono (by decide)) rfl (by rfl) B.len_) (e_int)) (es_cons (e_non) (es_cons (e_bl) (es_cons (e_str) (es_cons (e_op op_pow b2_pow (e_int) (e_int)) (es_cons (e_bl) (es_nil)))))))))) (e_def D_s_draw (rn.mono (by decide)) tk (by rfl) (r_io 1 (r_dat (e_int) (r_nil)))) (fun _ _ => rfl)))
      (ss_cons (s_set (i := 10) sc_law.nd (e_frz (o_lst (es_cons (e_tup (es_cons (e_int) (es_cons (ev 7) (es_cons (e_str) (es_nil))))) (es_cons (e_tup (es_cons (e_int) (es_cons (ev 8) (es_cons (e_str) (es_nil))))) (es_cons (e_tup (es_cons (e_int) (es_cons (ev 9) (es_cons (e_str) (es_nil))))) (es_nil)))))))
      (ss_cons (s_set (i := 10) sc_law.nd (e_op op_addB b2_addB (ev 10) (e_frz (o_lst (es_cons (e_tup (es_cons (e_int) (es_cons (e_int) (es_cons (e_str) (es_nil))))) (es_cons (e_tup (es_cons (e_int) (es_cons (e_lenT 3 ME_Builder___len__ (rn.mono (by decide)) rfl (by rfl) B.len_) (es_cons (e_str) (es_nil))))) (es_nil)))))))
      (ss_cons (s_set (i := 11) sc_law.nd (e_callB (call_repr rn) bn_repr (by rfl) B.repr_ (by decide +kernel) (es_cons (e_frz (o_lst (es_cons (ev 7) (es_cons (e_methT0 3 ME_Builder_operations (rn.mono (by decide)) tk) (es_cons (e_methT0 3 ME_Builder_current_text (rn.mono (by decide)) tk) (es_cons (e_methT0 3 ME_Builder_current_history (rn.mono (by decide)) tk) (es_nil))))))) (es_nil))))
      (ss_cons (s_for po rfl (i_any (ev 10)) (g_tup rfl (gs_cons (g_name (i := 12) sc_law.nd) (gs_cons (g_name (i := 13) sc_law.nd) (gs_cons (g_name (i := 14) sc_law.nd) (gs_nil) (hm := gm_name)) (hm := gm_name)) (hm := gm_name))) (ss_one (s_if (t_cmp (op_neS rn.hr.units) b2_ne (e_defT 1 3 D_l_asked (rn.mono (by decide)) tk (by rfl) (r_dat (ev 12) (r_tr 3 (r_dat (ev 13) (r_nil))))) (ev 14) (nomark _)) (ss_one (s_ret (e_bl))) (ss_nil))))
      (ss_cons (s_if (t_cmp (op_neS rn.hr.units) b2_ne (e_callB (call_repr rn) bn_repr (by rfl) B.repr_ (by decide +kernel) (es_cons (e_frz (o_lst (es_cons (ev 7) (es_cons (e_methT0 3 ME_Builder_operations (rn.mono (by decide)) tk) (es_cons (e_methT0 3 ME_Builder_current_text (rn.mono (by decide)) tk) (es_cons (e_methT0 3 ME_Builder_current_history (rn.mono (by decide)) tk) (es_nil))))))) (es_nil))) (ev 11) (nomark _)) (ss_one (s_ret (e_bl))) (ss_nil))
      (ss_cons (s_if (tw (tw_or (t_cmp (op_neS rn.hr.units) b2_ne (e_defT 1 3 D_l_asked (rn.mono (by decide)) tk (by rfl) (r_dat (e_int) (r_tr 3 (r_dat (e_op op_sub b2_sub (e_int) (ev 4)) (r_nil))))) (e_str) (nomark _)) (tw_or1 (t_cmp (op_neS rn.hr.units) b2_ne (e_methT0 3 ME_Builder_escape_count (rn.mono (by decide)) tk) (e_int) (nomark _))))) (ss_one (s_ret (e_bl))) (ss_nil))
      (ss_cons (s_if (tw (tw_or (t_cmp (op_neS rn.hr.units) b2_ne (e_defT 1 3 D_l_asked (rn.mono (by decide)) tk (by rfl) (r_dat (e_int) (r_tr 3 (r_dat (e_int) (r_nil))))) (e_str) (nomark _)) (tw_or1 (t_cmp (op_neS rn.hr.units) b2_ne (e_defT 1 3 D_l_asked (rn.mono (by decide)) tk (by rfl) (r_dat (e_int) (r_tr 3 (r_dat (e_int) (r_nil))))) (e_str) (nomark _))))) (ss_one (s_ret (e_bl))) (ss_nil))
      (ss_cons (s_while po (t_cmp op_gtA b2_ord (e_lenT 3 ME_Builder___len__ (rn.mono (by decide)) rfl (by rfl) B.len_) (e_int) (nomark _)) (ss_one (s_if (t_cmp (op_neS rn.hr.units) b2_ne (e_defT 1 3 D_l_asked (rn.mono (by decide)) tk (by rfl) (r_dat (e_int) (r_tr 3 (r_dat (e_int) (r_nil))))) (e_str) (nomark _)) (ss_one (s_ret (e_bl))) (ss_nil))))
      (ss_one (s_if (tw (tw_or (t_cmp (op_neS rn.hr.units) b2_ne (e_defT 1 3 D_l_asked (rn.mono (by decide)) tk (by rfl) (r_dat (e_int) (r_tr 3 (r_dat (e_int) (r_nil))))) (e_str) (nomark _)) (tw_or (t_cmp (op_neS rn.hr.units) b2_ne (e_methT0 3 ME_Builder_current_text (rn.mono (by decide)) tk) (e_frz (o_lst (es_nil))) (nomark _)) (tw_or1 (t_cmp (op_neS rn.hr.units) b2_ne (e_lenT 3 ME_Builder___len__ (rn.mono (by decide)) rfl (by rfl) B.len_) (e_int) (nomark _)))))) (ss_one (s_ret (e_bl))) (ss_nil)))))))))))))))))
      (ss_one (s_ret (e_bl)))))) p_law
end
section
theorem all_mk {P : Program} {w : World} {K : PySem.W.Frag} {h : Heap} {mg : Str → Option Value} {fa : Addr} (X : K.In h) (G : h.Ns mainGlobals mg) (hfa : mg "law" = some (.ref fa))
    {C_Builder : Addr} (aC_Builder : PySem.W.nsIn K mainGlobals "Builder" = some (some (.ref C_Builder))) (pg_Builder : PySem.W.plainGet K C_Builder Str.empty = true) (hd_Builder : PySem.W.hasDictIn K C_Builder = true) (po_Builder : PySem.W.plainOver K C_Builder = true) (sa_Builder : PySem.W.findIn K (.ref C_Builder) "__setattr__" = some (some (.builtin "object.__setattr__"))) (mk_Builder : PySem.W.makesIn K C_Builder = true) (kc_Builder : PySem.W.keepIn K (.ref C_Builder) = true)
    (n_Builder_steps : PySem.W.findIn K (.ref C_Builder) "steps" = some none)
    {C_Part : Addr} (aC_Part : PySem.W.nsIn K mainGlobals "Part" = some (some (.ref C_Part))) (pg_Part : PySem.W.plainGet K C_Part Str.empty = true) (hd_Part : PySem.W.hasDictIn K C_Part = true) (po_Part : PySem.W.plainOver K C_Part = true) (sa_Part : PySem.W.findIn K (.ref C_Part) "__setattr__" = some (some (.builtin "object.__setattr__"))) (mk_Part : PySem.W.makesIn K C_Part = true) (kc_Part : PySem.W.keepIn K (.ref C_Part) = true)
    (n_Part_start : PySem.W.findIn K (.ref C_Part) "start" = some none)
    (n_Part_symbol : PySem.W.findIn K (.ref C_Part) "symbol" = some none)
    (n_Part_size : PySem.W.findIn K (.ref C_Part) "size" = some none)
    (n_Part_quoted : PySem.W.findIn K (.ref C_Part) "quoted" = some none)
    (n_Part_many : PySem.W.findIn K (.ref C_Part) "many" = some none)
    {C_SlashError : Addr} (aC_SlashError : PySem.W.nsIn K mainGlobals "SlashError" = some (some (.ref C_SlashError))) (xb_SlashError : PySem.W.subIn K (.ref C_SlashError) (.type "BaseException") = some true) (xv_SlashError : PySem.W.subIn K (.ref C_SlashError) (.type "ValueError") = some true) (xs_SlashError : PySem.W.subIn K (.ref C_SlashError) (.ref C_SlashError) = some true) (xt_SlashError : PySem.W.typeIn K (.ref C_SlashError) = some (.type "type")) (xh_SlashError : PySem.W.hasDictIn K C_SlashError = true) (kc_SlashError : PySem.W.keepIn K (.ref C_SlashError) = true)
    (xg_SlashError : PySem.W.findIn K (.ref C_SlashError) "__getattribute__" = some (some (.builtin "BaseException.__getattribute__"))) (xr_SlashError : PySem.W.findIn K (.ref C_SlashError) "__getattr__" = some none) (xc_SlashError : PySem.W.findIn K (.ref C_SlashError) "__class__" = some (some (.builtin "object.__class__"))) (xo_SlashError : PySem.W.mroIn K C_SlashError (.type "object") = some true)
    {C_NotEscaped : Addr} (aC_NotEscaped : PySem.W.nsIn K mainGlobals "NotEscaped" = some (some (.ref C_NotEscaped))) (xb_NotEscaped : PySem.W.subIn K (.ref C_NotEscaped) (.type "BaseException") = some true) (xv_NotEscaped : PySem.W.subIn K (.ref C_NotEscaped) (.type "ValueError") = some true) (xs_NotEscaped : PySem.W.subIn K (.ref C_NotEscaped) (.ref C_NotEscaped) = some true) (xt_NotEscaped : PySem.W.typeIn K (.ref C_NotEscaped) = some (.type "type")) (xh_NotEscaped : PySem.W.hasDictIn K C_NotEscaped = true) (kc_NotEscaped : PySem.W.keepIn K (.ref C_NotEscaped) = true)
    (xg_NotEscaped : PySem.W.findIn K (.ref C_NotEscaped) "__getattribute__" = some (some (.builtin "BaseException.__getattribute__"))) (xr_NotEscaped : PySem.W.findIn K (.ref C_NotEscaped) "__getattr__" = some none) (xc_NotEscaped : PySem.W.findIn K (.ref C_NotEscaped) "__class__" = some (some (.builtin "object.__class__"))) (xo_NotEscaped : PySem.W.mroIn K C_NotEscaped (.type "object") = some true)
    {C_TooLong : Addr} (aC_TooLong : PySem.W.nsIn K mainGlobals "TooLong" = some (some (.ref C_TooLong))) (xb_TooLong : PySem.W.subIn K (.ref C_TooLong) (.type "BaseException") = some true) (xv_TooLong : PySem.W.subIn K (.ref C_TooLong) (.type "ValueError") = some true) (xs_TooLong : PySem.W.subIn K (.ref C_TooLong) (.ref C_TooLong) = some true) (xt_TooLong : PySem.W.typeIn K (.ref C_TooLong) = some (.type "type")) (xh_TooLong : PySem.W.hasDictIn K C_TooLong = true) (kc_TooLong : PySem.W.keepIn K (.ref C_TooLong) = true)
    (xg_TooLong : PySem.W.findIn K (.ref C_TooLong) "__getattribute__" = some (some (.builtin "BaseException.__getattribute__"))) (xr_TooLong : PySem.W.findIn K (.ref C_TooLong) "__getattr__" = some none) (xc_TooLong : PySem.W.findIn K (.ref C_TooLong) "__class__" = some (some (.builtin "object.__class__"))) (xo_TooLong : PySem.W.mroIn K C_TooLong (.type "object") = some true)
    {C_Contradiction : Addr} (aC_Contradiction : PySem.W.nsIn K mainGlobals "Contradiction" = some (some (.ref C_Contradiction))) (xb_Contradiction : PySem.W.subIn K (.ref C_Contradiction) (.type "BaseException") = some true) (xv_Contradiction : PySem.W.subIn K (.ref C_Contradiction) (.type "ValueError") = some true) (xs_Contradiction : PySem.W.subIn K (.ref C_Contradiction) (.ref C_Contradiction) = some true) (xt_Contradiction : PySem.W.typeIn K (.ref C_Contradiction) = some (.type "type")) (xh_Contradiction : PySem.W.hasDictIn K C_Contradiction = true) (kc_Contradiction : PySem.W.keepIn K (.ref C_Contradiction) = true)
    (xg_Contradiction : PySem.W.findIn K (.ref C_Contradiction) "__getattribute__" = some (some (.builtin "BaseException.__getattribute__"))) (xr_Contradiction : PySem.W.findIn K (.ref C_Contradiction) "__getattr__" = some none) (xc_Contradiction : PySem.W.findIn K (.ref C_Contradiction) "__class__" = some (some (.builtin "object.__class__"))) (xo_Contradiction : PySem.W.mroIn K C_Contradiction (.type "object") = some true)
    {C_ParseError : Addr} (aC_ParseError : PySem.W.nsIn K mainGlobals "ParseError" = some (some (.ref C_ParseError))) (xb_ParseError : PySem.W.subIn K (.ref C_ParseError) (.type "BaseException") = some true) (xv_ParseError : PySem.W.subIn K (.ref C_ParseError) (.type "ValueError") = some true) (xs_ParseError : PySem.W.subIn K (.ref C_ParseError) (.ref C_ParseError) = some true) (xt_ParseError : PySem.W.typeIn K (.ref C_ParseError) = some (.type "type")) (xh_ParseError : PySem.W.hasDictIn K C_ParseError = true) (kc_ParseError : PySem.W.keepIn K (.ref C_ParseError) = true)
    (xg_ParseError : PySem.W.findIn K (.ref C_ParseError) "__getattribute__" = some (some (.builtin "BaseException.__getattribute__"))) (xr_ParseError : PySem.W.findIn K (.ref C_ParseError) "__getattr__" = some none) (xc_ParseError : PySem.W.findIn K (.ref C_ParseError) "__class__" = some (some (.builtin "object.__class__"))) (xo_ParseError : PySem.W.mroIn K C_ParseError (.type "object") = some true)
    {C_InvalidText : Addr} (aC_InvalidText : PySem.W.nsIn K mainGlobals "InvalidText" = some (some (.ref C_InvalidText))) (xb_InvalidText : PySem.W.subIn K (.ref C_InvalidText) (.type "BaseException") = some true) (xv_InvalidText : PySem.W.subIn K (.ref C_InvalidText) (.type "ValueError") = some true) (xs_InvalidText : PySem.W.subIn K (.ref C_InvalidText) (.ref C_InvalidText) = some true) (xt_InvalidText : PySem.W.typeIn K (.ref C_InvalidText) = some (.type "type")) (xh_InvalidText : PySem.W.hasDictIn K C_InvalidText = true) (kc_InvalidText : PySem.W.keepIn K (.ref C_InvalidText) = true)
    (xg_InvalidText : PySem.W.findIn K (.ref C_InvalidText) "__getattribute__" = some (some (.builtin "BaseException.__getattribute__"))) (xr_InvalidText : PySem.W.findIn K (.ref C_InvalidText) "__getattr__" = some none) (xc_InvalidText : PySem.W.findIn K (.ref C_InvalidText) "__class__" = some (some (.builtin "object.__class__"))) (xo_InvalidText : PySem.W.mroIn K C_InvalidText (.type "object") = some true)
    {C_InvalidSymbols : Addr} (aC_InvalidSymbols : PySem.W.nsIn K mainGlobals "InvalidSymbols" = some (some (.ref C_InvalidSymbols))) (xb_InvalidSymbols : PySem.W.subIn K (.ref C_InvalidSymbols) (.type "BaseException") = some true) (xv_InvalidSymbols : PySem.W.subIn K (.ref C_InvalidSymbols) (.type "ValueError") = some true) (xs_InvalidSymbols : PySem.W.subIn K (.ref C_InvalidSymbols) (.ref C_InvalidSymbols) = some true) (xt_InvalidSymbols : PySem.W.typeIn K (.ref C_InvalidSymbols) = some (.type "type")) (xh_InvalidSymbols : PySem.W.hasDictIn K C_InvalidSymbols = true) (kc_InvalidSymbols : PySem.W.keepIn K (.ref C_InvalidSymbols) = true)
    (xg_InvalidSymbols : PySem.W.findIn K (.ref C_InvalidSymbols) "__getattribute__" = some (some (.builtin "BaseException.__getattribute__"))) (xr_InvalidSymbols : PySem.W.findIn K (.ref C_InvalidSymbols) "__getattr__" = some none) (xc_InvalidSymbols : PySem.W.findIn K (.ref C_InvalidSymbols) "__class__" = some (some (.builtin "object.__class__"))) (xo_InvalidSymbols : PySem.W.mroIn K C_InvalidSymbols (.type "object") = some true)
    {C_InvalidPosition : Addr} (aC_InvalidPosition : PySem.W.nsIn K mainGlobals "InvalidPosition" = some (some (.ref C_InvalidPosition))) (xb_InvalidPosition : PySem.W.subIn K (.ref C_InvalidPosition) (.type "BaseException") = some true) (xv_InvalidPosition : PySem.W.subIn K (.ref C_InvalidPosition) (.type "ValueError") = some true) (xs_InvalidPosition : PySem.W.subIn K (.ref C_InvalidPosition) (.ref C_InvalidPosition) = some true) (xt_InvalidPosition : PySem.W.typeIn K (.ref C_InvalidPosition) = some (.type "type")) (xh_InvalidPosition : PySem.W.hasDictIn K C_InvalidPosition = true) (kc_InvalidPosition : PySem.W.keepIn K (.ref C_InvalidPosition) = true)
    (xg_InvalidPosition : PySem.W.findIn K (.ref C_InvalidPosition) "__getattribute__" = some (some (.builtin "BaseException.__getattribute__"))) (xr_InvalidPosition : PySem.W.findIn K (.ref C_InvalidPosition) "__getattr__" = some none) (xc_InvalidPosition : PySem.W.findIn K (.ref C_InvalidPosition) "__class__" = some (some (.builtin "object.__class__"))) (xo_InvalidPosition : PySem.W.mroIn K C_InvalidPosition (.type "object") = some true)
    {C_InvalidNumber : Addr} (aC_InvalidNumber : PySem.W.nsIn K mainGlobals "InvalidNumber" = some (some (.ref C_InvalidNumber))) (xb_InvalidNumber : PySem.W.subIn K (.ref C_InvalidNumber) (.type "BaseException") = some true) (xv_InvalidNumber : PySem.W.subIn K (.ref C_InvalidNumber) (.type "ValueError") = some true) (xs_InvalidNumber : PySem.W.subIn K (.ref C_InvalidNumber) (.ref C_InvalidNumber) = some true) (xt_InvalidNumber : PySem.W.typeIn K (.ref C_InvalidNumber) = some (.type "type")) (xh_InvalidNumber : PySem.W.hasDictIn K C_InvalidNumber = true) (kc_InvalidNumber : PySem.W.keepIn K (.ref C_InvalidNumber) = true)
    (xg_InvalidNumber : PySem.W.findIn K (.ref C_InvalidNumber) "__getattribute__" = some (some (.builtin "BaseException.__getattribute__"))) (xr_InvalidNumber : PySem.W.findIn K (.ref C_InvalidNumber) "__getattr__" = some none) (xc_InvalidNumber : PySem.W.findIn K (.ref C_InvalidNumber) "__class__" = some (some (.builtin "object.__class__"))) (xo_InvalidNumber : PySem.W.mroIn K C_InvalidNumber (.type "object") = some true)
    {C_InvalidHistory : Addr} (aC_InvalidHistory : PySem.W.nsIn K mainGlobals "InvalidHistory" = some (some (.ref C_InvalidHistory))) (xb_InvalidHistory : PySem.W.subIn K (.ref C_InvalidHistory) (.type "BaseException") = some true) (xv_InvalidHistory : PySem.W.subIn K (.ref C_InvalidHistory) (.type "ValueError") = some true) (xs_InvalidHistory : PySem.W.subIn K (.ref C_InvalidHistory) (.ref C_InvalidHistory) = some true) (xt_InvalidHistory : PySem.W.typeIn K (.ref C_InvalidHistory) = some (.type "type")) (xh_InvalidHistory : PySem.W.hasDictIn K C_InvalidHistory = true) (kc_InvalidHistory : PySem.W.keepIn K (.ref C_InvalidHistory) = true)
    (xg_InvalidHistory : PySem.W.findIn K (.ref C_InvalidHistory) "__getattribute__" = some (some (.builtin "BaseException.__getattribute__"))) (xr_InvalidHistory : PySem.W.findIn K (.ref C_InvalidHistory) "__getattr__" = some none) (xc_InvalidHistory : PySem.W.findIn K (.ref C_InvalidHistory) "__class__" = some (some (.builtin "object.__class__"))) (xo_InvalidHistory : PySem.W.mroIn K C_InvalidHistory (.type "object") = some true)
    {C_InvalidScript : Addr} (aC_InvalidScript : PySem.W.nsIn K mainGlobals "InvalidScript" = some (some (.ref C_InvalidScript))) (xb_InvalidScript : PySem.W.subIn K (.ref C_InvalidScript) (.type "BaseException") = some true) (xv_InvalidScript : PySem.W.subIn K (.ref C_InvalidScript) (.type "ValueError") = some true) (xs_InvalidScript : PySem.W.subIn K (.ref C_InvalidScript) (.ref C_InvalidScript) = some true) (xt_InvalidScript : PySem.W.typeIn K (.ref C_InvalidScript) = some (.type "type")) (xh_InvalidScript : PySem.W.hasDictIn K C_InvalidScript = true) (kc_InvalidScript : PySem.W.keepIn K (.ref C_InvalidScript) = true)
    (xg_InvalidScript : PySem.W.findIn K (.ref C_InvalidScript) "__getattribute__" = some (some (.builtin "BaseException.__getattribute__"))) (xr_InvalidScript : PySem.W.findIn K (.ref C_InvalidScript) "__getattr__" = some none) (xc_InvalidScript : PySem.W.findIn K (.ref C_InvalidScript) "__class__" = some (some (.builtin "object.__class__"))) (xo_InvalidScript : PySem.W.mroIn K C_InvalidScript (.type "object") = some true)
    {C_InvalidFacts : Addr} (aC_InvalidFacts : PySem.W.nsIn K mainGlobals "InvalidFacts" = some (some (.ref C_InvalidFacts))) (xb_InvalidFacts : PySem.W.subIn K (.ref C_InvalidFacts) (.type "BaseException") = some true) (xv_InvalidFacts : PySem.W.subIn K (.ref C_InvalidFacts) (.type "ValueError") = some true) (xs_InvalidFacts : PySem.W.subIn K (.ref C_InvalidFacts) (.ref C_InvalidFacts) = some true) (xt_InvalidFacts : PySem.W.typeIn K (.ref C_InvalidFacts) = some (.type "type")) (xh_InvalidFacts : PySem.W.hasDictIn K C_InvalidFacts = true) (kc_InvalidFacts : PySem.W.keepIn K (.ref C_InvalidFacts) = true)
    (xg_InvalidFacts : PySem.W.findIn K (.ref C_InvalidFacts) "__getattribute__" = some (some (.builtin "BaseException.__getattribute__"))) (xr_InvalidFacts : PySem.W.findIn K (.ref C_InvalidFacts) "__getattr__" = some none) (xc_InvalidFacts : PySem.W.findIn K (.ref C_InvalidFacts) "__class__" = some (some (.builtin "object.__class__"))) (xo_InvalidFacts : PySem.W.mroIn K C_InvalidFacts (.type "object") = some true)
    {C_NoMove : Addr} (aC_NoMove : PySem.W.nsIn K mainGlobals "NoMove" = some (some (.ref C_NoMove))) (xb_NoMove : PySem.W.subIn K (.ref C_NoMove) (.type "BaseException") = some true) (xv_NoMove : PySem.W.subIn K (.ref C_NoMove) (.type "ValueError") = some true) (xs_NoMove : PySem.W.subIn K (.ref C_NoMove) (.ref C_NoMove) = some true) (xt_NoMove : PySem.W.typeIn K (.ref C_NoMove) = some (.type "type")) (xh_NoMove : PySem.W.hasDictIn K C_NoMove = true) (kc_NoMove : PySem.W.keepIn K (.ref C_NoMove) = true)
    (xg_NoMove : PySem.W.findIn K (.ref C_NoMove) "__getattribute__" = some (some (.builtin "BaseException.__getattribute__"))) (xr_NoMove : PySem.W.findIn K (.ref C_NoMove) "__getattr__" = some none) (xc_NoMove : PySem.W.findIn K (.ref C_NoMove) "__class__" = some (some (.builtin "object.__class__"))) (xo_NoMove : PySem.W.mroIn K C_NoMove (.type "object") = some true)
    {C_NothingToUndo : Addr} (aC_NothingToUndo : PySem.W.nsIn K mainGlobals "NothingToUndo" = some (some (.ref C_NothingToUndo))) (xb_NothingToUndo : PySem.W.subIn K (.ref C_NothingToUndo) (.type "BaseException") = some true) (xv_NothingToUndo : PySem.W.subIn K (.ref C_NothingToUndo) (.type "ValueError") = some true) (xs_NothingToUndo : PySem.W.subIn K (.ref C_NothingToUndo) (.ref C_NothingToUndo) = some true) (xt_NothingToUndo : PySem.W.typeIn K (.ref C_NothingToUndo) = some (.type "type")) (xh_NothingToUndo : PySem.W.hasDictIn K C_NothingToUndo = true) (kc_NothingToUndo : PySem.W.keepIn K (.ref C_NothingToUndo) = true)
    (xg_NothingToUndo : PySem.W.findIn K (.ref C_NothingToUndo) "__getattribute__" = some (some (.builtin "BaseException.__getattribute__"))) (xr_NothingToUndo : PySem.W.findIn K (.ref C_NothingToUndo) "__getattr__" = some none) (xc_NothingToUndo : PySem.W.findIn K (.ref C_NothingToUndo) "__class__" = some (some (.builtin "object.__class__"))) (xo_NothingToUndo : PySem.W.mroIn K C_NothingToUndo (.type "object") = some true)
    {C_InvalidCommand : Addr} (aC_InvalidCommand : PySem.W.nsIn K mainGlobals "InvalidCommand" = some (some (.ref C_InvalidCommand))) (xb_InvalidCommand : PySem.W.subIn K (.ref C_InvalidCommand) (.type "BaseException") = some true) (xv_InvalidCommand : PySem.W.subIn K (.ref C_InvalidCommand) (.type "ValueError") = some true) (xs_InvalidCommand : PySem.W.subIn K (.ref C_InvalidCommand) (.ref C_InvalidCommand) = some true) (xt_InvalidCommand : PySem.W.typeIn K (.ref C_InvalidCommand) = some (.type "type")) (xh_InvalidCommand : PySem.W.hasDictIn K C_InvalidCommand = true) (kc_InvalidCommand : PySem.W.keepIn K (.ref C_InvalidCommand) = true)
    (xg_InvalidCommand : PySem.W.findIn K (.ref C_InvalidCommand) "__getattribute__" = some (some (.builtin "BaseException.__getattribute__"))) (xr_InvalidCommand : PySem.W.findIn K (.ref C_InvalidCommand) "__getattr__" = some none) (xc_InvalidCommand : PySem.W.findIn K (.ref C_InvalidCommand) "__class__" = some (some (.builtin "object.__class__"))) (xo_InvalidCommand : PySem.W.mroIn K C_InvalidCommand (.type "object") = some true)
    (x_n : PySem.W.specialIn K (.builtin "object.__class__") "__get__" = some (some (.builtin "getset_descriptor.__get__"))) (x_t : PySem.W.takesIn K (.builtin "object.__class__") = some true)
    (u_SlashError_Contradiction : PySem.W.subIn K (.ref C_SlashError) (.ref C_Contradiction) = some false)
    (u_NotEscaped_Contradiction : PySem.W.subIn K (.ref C_NotEscaped) (.ref C_Contradiction) = some false)
    (u_TooLong_Contradiction : PySem.W.subIn K (.ref C_TooLong) (.ref C_Contradiction) = some false)
    (u_ParseError_Contradiction : PySem.W.subIn K (.ref C_ParseError) (.ref C_Contradiction) = some false)
    (u_InvalidText_Contradiction : PySem.W.subIn K (.ref C_InvalidText) (.ref C_Contradiction) = some false)
    (u_InvalidSymbols_Contradiction : PySem.W.subIn K (.ref C_InvalidSymbols) (.ref C_Contradiction) = some false)
    (u_InvalidPosition_Contradiction : PySem.W.subIn K (.ref C_InvalidPosition) (.ref C_Contradiction) = some false)
    (u_InvalidNumber_Contradiction : PySem.W.subIn K (.ref C_InvalidNumber) (.ref C_Contradiction) = some false)
    (u_InvalidHistory_Contradiction : PySem.W.subIn K (.ref C_InvalidHistory) (.ref C_Contradiction) = some false)
    (u_InvalidScript_Contradiction : PySem.W.subIn K (.ref C_InvalidScript) (.ref C_Contradiction) = some false)
    (u_InvalidFacts_Contradiction : PySem.W.subIn K (.ref C_InvalidFacts) (.ref C_Contradiction) = some false)
    (u_NoMove_Contradiction : PySem.W.subIn K (.ref C_NoMove) (.ref C_Contradiction) = some false)
    (u_NothingToUndo_Contradiction : PySem.W.subIn K (.ref C_NothingToUndo) (.ref C_Contradiction) = some false)
    (u_InvalidCommand_Contradiction : PySem.W.subIn K (.ref C_InvalidCommand) (.ref C_Contradiction) = some false)
    (u_SlashError_InvalidCommand : PySem.W.subIn K (.ref C_SlashError) (.ref C_InvalidCommand) = some false)
    (u_NotEscaped_InvalidCommand : PySem.W.subIn K (.ref C_NotEscaped) (.ref C_InvalidCommand) = some false)
    (u_TooLong_InvalidCommand : PySem.W.subIn K (.ref C_TooLong) (.ref C_InvalidCommand) = some false)
    (u_Contradiction_InvalidCommand : PySem.W.subIn K (.ref C_Contradiction) (.ref C_InvalidCommand) = some false)
    (u_ParseError_InvalidCommand : PySem.W.subIn K (.ref C_ParseError) (.ref C_InvalidCommand) = some false)
    (u_InvalidText_InvalidCommand : PySem.W.subIn K (.ref C_InvalidText) (.ref C_InvalidCommand) = some false)
    (u_InvalidSymbols_InvalidCommand : PySem.W.subIn K (.ref C_InvalidSymbols) (.ref C_InvalidCommand) = some false)
    (u_InvalidPosition_InvalidCommand : PySem.W.subIn K (.ref C_InvalidPosition) (.ref C_InvalidCommand) = some false)
    (u_InvalidNumber_InvalidCommand : PySem.W.subIn K (.ref C_InvalidNumber) (.ref C_InvalidCommand) = some false)
    (u_InvalidHistory_InvalidCommand : PySem.W.subIn K (.ref C_InvalidHistory) (.ref C_InvalidCommand) = some false)
    (u_InvalidScript_InvalidCommand : PySem.W.subIn K (.ref C_InvalidScript) (.ref C_InvalidCommand) = some false)
    (u_InvalidFacts_InvalidCommand : PySem.W.subIn K (.ref C_InvalidFacts) (.ref C_InvalidCommand) = some false)
    (u_NoMove_InvalidCommand : PySem.W.subIn K (.ref C_NoMove) (.ref C_InvalidCommand) = some false)
    (u_NothingToUndo_InvalidCommand : PySem.W.subIn K (.ref C_NothingToUndo) (.ref C_InvalidCommand) = some false)
    (u_SlashError_InvalidFacts : PySem.W.subIn K (.ref C_SlashError) (.ref C_InvalidFacts) = some false)
    (u_NotEscaped_InvalidFacts : PySem.W.subIn K (.ref C_NotEscaped) (.ref C_InvalidFacts) = some false)
    (u_TooLong_InvalidFacts : PySem.W.subIn K (.ref C_TooLong) (.ref C_InvalidFacts) = some false)
    (u_Contradiction_InvalidFacts : PySem.W.subIn K (.ref C_Contradiction) (.ref C_InvalidFacts) = some false)
    (u_ParseError_InvalidFacts : PySem.W.subIn K (.ref C_ParseError) (.ref C_InvalidFacts) = some false)
    (u_InvalidText_InvalidFacts : PySem.W.subIn K (.ref C_InvalidText) (.ref C_InvalidFacts) = some false)
    (u_InvalidSymbols_InvalidFacts : PySem.W.subIn K (.ref C_InvalidSymbols) (.ref C_InvalidFacts) = some false)
    (u_InvalidPosition_InvalidFacts : PySem.W.subIn K (.ref C_InvalidPosition) (.ref C_InvalidFacts) = some false)
    (u_InvalidNumber_InvalidFacts : PySem.W.subIn K (.ref C_InvalidNumber) (.ref C_InvalidFacts) = some false)
    (u_InvalidHistory_InvalidFacts : PySem.W.subIn K (.ref C_InvalidHistory) (.ref C_InvalidFacts) = some false)
    (u_InvalidScript_InvalidFacts : PySem.W.subIn K (.ref C_InvalidScript) (.ref C_InvalidFacts) = some false)
    (u_NoMove_InvalidFacts : PySem.W.subIn K (.ref C_NoMove) (.ref C_InvalidFacts) = some false)
    (u_NothingToUndo_InvalidFacts : PySem.W.subIn K (.ref C_NothingToUndo) (.ref C_InvalidFacts) = some false)
    (u_InvalidCommand_InvalidFacts : PySem.W.subIn K (.ref C_InvalidCommand) (.ref C_InvalidFacts) = some false)
    (u_SlashError_InvalidHistory : PySem.W.subIn K (.ref C_SlashError) (.ref C_InvalidHistory) = some false)
    (u_NotEscaped_InvalidHistory : PySem.W.subIn K (.ref C_NotEscaped) (.ref C_InvalidHistory) = some false)
    (u_TooLong_InvalidHistory : PySem.W.subIn K (.ref C_TooLong) (.ref C_InvalidHistory) = some false)
    (u_Contradiction_InvalidHistory : PySem.W.subIn K (.ref C_Contradiction) (.ref C_InvalidHistory) = some false)
    (u_ParseError_InvalidHistory : PySem.W.subIn K (.ref C_ParseError) (.ref C_InvalidHistory) = some false)
    (u_InvalidText_InvalidHistory : PySem.W.subIn K (.ref C_InvalidText) (.ref C_InvalidHistory) = some false)
    (u_InvalidSymbols_InvalidHistory : PySem.W.subIn K (.ref C_InvalidSymbols) (.ref C_InvalidHistory) = some false)
    (u_InvalidPosition_InvalidHistory : PySem.W.subIn K (.ref C_InvalidPosition) (.ref C_InvalidHistory) = some false)
    (u_InvalidNumber_InvalidHistory : PySem.W.subIn K (.ref C_InvalidNumber) (.ref C_InvalidHistory) = some false)
    (u_InvalidScript_InvalidHistory : PySem.W.subIn K (.ref C_InvalidScript) (.ref C_InvalidHistory) = some false)
    (u_InvalidFacts_InvalidHistory : PySem.W.subIn K (.ref C_InvalidFacts) (.ref C_InvalidHistory) = some false)
    (u_NoMove_InvalidHistory : PySem.W.subIn K (.ref C_NoMove) (.ref C_InvalidHistory) = some false)
    (u_NothingToUndo_InvalidHistory : PySem.W.subIn K (.ref C_NothingToUndo) (.ref C_InvalidHistory) = some false)
    (u_InvalidCommand_InvalidHistory : PySem.W.subIn K (.ref C_InvalidCommand) (.ref C_InvalidHistory) = some false)
    (u_SlashError_InvalidNumber : PySem.W.subIn K (.ref C_SlashError) (.ref C_InvalidNumber) = some false)
    (u_NotEscaped_InvalidNumber : PySem.W.subIn K (.ref C_NotEscaped) (.ref C_InvalidNumber) = some false)
    (u_TooLong_InvalidNumber : PySem.W.subIn K (.ref C_TooLong) (.ref C_InvalidNumber) = some false)
    (u_Contradiction_InvalidNumber : PySem.W.subIn K (.ref C_Contradiction) (.ref C_InvalidNumber) = some false)
    (u_ParseError_InvalidNumber : PySem.W.subIn K (.ref C_ParseError) (.ref C_InvalidNumber) = some false)
    (u_InvalidText_InvalidNumber : PySem.W.subIn K (.ref C_InvalidText) (.ref C_InvalidNumber) = some false)
    (u_InvalidSymbols_InvalidNumber : PySem.W.subIn K (.ref C_InvalidSymbols) (.ref C_InvalidNumber) = some false)
    (u_InvalidPosition_InvalidNumber : PySem.W.subIn K (.ref C_InvalidPosition) (.ref C_InvalidNumber) = some false)
    (u_InvalidHistory_InvalidNumber : PySem.W.subIn K (.ref C_InvalidHistory) (.ref C_InvalidNumber) = some false)
    (u_InvalidScript_InvalidNumber : PySem.W.subIn K (.ref C_InvalidScript) (.ref C_InvalidNumber) = some false)
    (u_InvalidFacts_InvalidNumber : PySem.W.subIn K (.ref C_InvalidFacts) (.ref C_InvalidNumber) = some false)
    (u_NoMove_InvalidNumber : PySem.W.subIn K (.ref C_NoMove) (.ref C_InvalidNumber) = some false)
    (u_NothingToUndo_InvalidNumber : PySem.W.subIn K (.ref C_NothingToUndo) (.ref C_InvalidNumber) = some false)
    (u_InvalidCommand_InvalidNumber : PySem.W.subIn K (.ref C_InvalidCommand) (.ref C_InvalidNumber) = some false)
    (u_SlashError_InvalidPosition : PySem.W.subIn K (.ref C_SlashError) (.ref C_InvalidPosition) = some false)
    (u_NotEscaped_InvalidPosition : PySem.W.subIn K (.ref C_NotEscaped) (.ref C_InvalidPosition) = some false)
    (u_TooLong_InvalidPosition : PySem.W.subIn K (.ref C_TooLong) (.ref C_InvalidPosition) = some false)
    (u_Contradiction_InvalidPosition : PySem.W.subIn K (.ref C_Contradiction) (.ref C_InvalidPosition) = some false)
    (u_ParseError_InvalidPosition : PySem.W.subIn K (.ref C_ParseError) (.ref C_InvalidPosition) = some false)
    (u_InvalidText_InvalidPosition : PySem.W.subIn K (.ref C_InvalidText) (.ref C_InvalidPosition) = some false)
    (u_InvalidSymbols_InvalidPosition : PySem.W.subIn K (.ref C_InvalidSymbols) (.ref C_InvalidPosition) = some false)
    (u_InvalidNumber_InvalidPosition : PySem.W.subIn K (.ref C_InvalidNumber) (.ref C_InvalidPosition) = some false)
    (u_InvalidHistory_InvalidPosition : PySem.W.subIn K (.ref C_InvalidHistory) (.ref C_InvalidPosition) = some false)
    (u_InvalidScript_InvalidPosition : PySem.W.subIn K (.ref C_InvalidScript) (.ref C_InvalidPosition) = some false)
    (u_InvalidFacts_InvalidPosition : PySem.W.subIn K (.ref C_InvalidFacts) (.ref C_InvalidPosition) = some false)
    (u_NoMove_InvalidPosition : PySem.W.subIn K (.ref C_NoMove) (.ref C_InvalidPosition) = some false)
    (u_NothingToUndo_InvalidPosition : PySem.W.subIn K (.ref C_NothingToUndo) (.ref C_InvalidPosition) = some false)
    (u_InvalidCommand_InvalidPosition : PySem.W.subIn K (.ref C_InvalidCommand) (.ref C_InvalidPosition) = some false)
    (u_SlashError_InvalidScript : PySem.W.subIn K (.ref C_SlashError) (.ref C_InvalidScript) = some false)
    (u_NotEscaped_InvalidScript : PySem.W.subIn K (.ref C_NotEscaped) (.ref C_InvalidScript) = some false)
    (u_TooLong_InvalidScript : PySem.W.subIn K (.ref C_TooLong) (.ref C_InvalidScript) = some false)
    (u_Contradiction_InvalidScript : PySem.W.subIn K (.ref C_Contradiction) (.ref C_InvalidScript) = some false)
    (u_ParseError_InvalidScript : PySem.W.subIn K (.ref C_ParseError) (.ref C_InvalidScript) = some false)
    (u_InvalidText_InvalidScript : PySem.W.subIn K (.ref C_InvalidText) (.ref C_InvalidScript) = some false)
    (u_InvalidSymbols_InvalidScript : PySem.W.subIn K (.ref C_InvalidSymbols) (.ref C_InvalidScript) = some false)
    (u_InvalidPosition_InvalidScript : PySem.W.subIn K (.ref C_InvalidPosition) (.ref C_InvalidScript) = some false)
    (u_InvalidNumber_InvalidScript : PySem.W.subIn K (.ref C_InvalidNumber) (.ref C_InvalidScript) = some false)
    (u_InvalidHistory_InvalidScript : PySem.W.subIn K (.ref C_InvalidHistory) (.ref C_InvalidScript) = some false)
    (u_InvalidFacts_InvalidScript : PySem.W.subIn K (.ref C_InvalidFacts) (.ref C_InvalidScript) = some false)
    (u_NoMove_InvalidScript : PySem.W.subIn K (.ref C_NoMove) (.ref C_InvalidScript) = some false)
    (u_NothingToUndo_InvalidScript : PySem.W.subIn K (.ref C_NothingToUndo) (.ref C_InvalidScript) = some false)
    (u_InvalidCommand_InvalidScript : PySem.W.subIn K (.ref C_InvalidCommand) (.ref C_InvalidScript) = some false)
    (u_SlashError_InvalidSymbols : PySem.W.subIn K (.ref C_SlashError) (.ref C_InvalidSymbols) = some false)
    (u_NotEscaped_InvalidSymbols : PySem.W.subIn K (.ref C_NotEscaped) (.ref C_InvalidSymbols) = some false)
    (u_TooLong_InvalidSymbols : PySem.W.subIn K (.ref C_TooLong) (.ref C_InvalidSymbols) = some false)
    (u_Contradiction_InvalidSymbols : PySem.W.subIn K (.ref C_Contradiction) (.ref C_InvalidSymbols) = some false)
    (u_ParseError_InvalidSymbols : PySem.W.subIn K (.ref C_ParseError) (.ref C_InvalidSymbols) = some false)
    (u_InvalidText_InvalidSymbols : PySem.W.subIn K (.ref C_InvalidText) (.ref C_InvalidSymbols) = some false)
    (u_InvalidPosition_InvalidSymbols : PySem.W.subIn K (.ref C_InvalidPosition) (.ref C_InvalidSymbols) = some false)
    (u_InvalidNumber_InvalidSymbols : PySem.W.subIn K (.ref C_InvalidNumber) (.ref C_InvalidSymbols) = some false)
    (u_InvalidHistory_InvalidSymbols : PySem.W.subIn K (.ref C_InvalidHistory) (.ref C_InvalidSymbols) = some false)
    (u_InvalidScript_InvalidSymbols : PySem.W.subIn K (.ref C_InvalidScript) (.ref C_InvalidSymbols) = some false)
    (u_InvalidFacts_InvalidSymbols : PySem.W.subIn K (.ref C_InvalidFacts) (.ref C_InvalidSymbols) = some false)
    (u_NoMove_InvalidSymbols : PySem.W.subIn K (.ref C_NoMove) (.ref C_InvalidSymbols) = some false)
    (u_NothingToUndo_InvalidSymbols : PySem.W.subIn K (.ref C_NothingToUndo) (.ref C_InvalidSymbols) = some false)
    (u_InvalidCommand_InvalidSymbols : PySem.W.subIn K (.ref C_InvalidCommand) (.ref C_InvalidSymbols) = some false)
    (u_SlashError_InvalidText : PySem.W.subIn K (.ref C_SlashError) (.ref C_InvalidText) = some false)
    (u_NotEscaped_InvalidText : PySem.W.subIn K (.ref C_NotEscaped) (.ref C_InvalidText) = some false)
    (u_TooLong_InvalidText : PySem.W.subIn K (.ref C_TooLong) (.ref C_InvalidText) = some false)
    (u_Contradiction_InvalidText : PySem.W.subIn K (.ref C_Contradiction) (.ref C_InvalidText) = some false)
    (u_ParseError_InvalidText : PySem.W.subIn K (.ref C_ParseError) (.ref C_InvalidText) = some false)
    (u_InvalidSymbols_InvalidText : PySem.W.subIn K (.ref C_InvalidSymbols) (.ref C_InvalidText) = some false)
    (u_InvalidPosition_InvalidText : PySem.W.subIn K (.ref C_InvalidPosition) (.ref C_InvalidText) = some false)
    (u_InvalidNumber_InvalidText : PySem.W.subIn K (.ref C_InvalidNumber) (.ref C_InvalidText) = some false)
    (u_InvalidHistory_InvalidText : PySem.W.subIn K (.ref C_InvalidHistory) (.ref C_InvalidText) = some false)
    (u_InvalidScript_InvalidText : PySem.W.subIn K (.ref C_InvalidScript) (.ref C_InvalidText) = some false)
    (u_InvalidFacts_InvalidText : PySem.W.subIn K (.ref C_InvalidFacts) (.ref C_InvalidText) = some false)
    (u_NoMove_InvalidText : PySem.W.subIn K (.ref C_NoMove) (.ref C_InvalidText) = some false)
    (u_NothingToUndo_InvalidText : PySem.W.subIn K (.ref C_NothingToUndo) (.ref C_InvalidText) = some false)
    (u_InvalidCommand_InvalidText : PySem.W.subIn K (.ref C_InvalidCommand) (.ref C_InvalidText) = some false)
    (u_SlashError_NoMove : PySem.W.subIn K (.ref C_SlashError) (.ref C_NoMove) = some false)
    (u_NotEscaped_NoMove : PySem.W.subIn K (.ref C_NotEscaped) (.ref C_NoMove) = some false)
    (u_TooLong_NoMove : PySem.W.subIn K (.ref C_TooLong) (.ref C_NoMove) = some false)
    (u_Contradiction_NoMove : PySem.W.subIn K (.ref C_Contradiction) (.ref C_NoMove) = some false)
    (u_ParseError_NoMove : PySem.W.subIn K (.ref C_ParseError) (.ref C_NoMove) = some false)
    (u_InvalidText_NoMove : PySem.W.subIn K (.ref C_InvalidText) (.ref C_NoMove) = some false)
    (u_InvalidSymbols_NoMove : PySem.W.subIn K (.ref C_InvalidSymbols) (.ref C_NoMove) = some false)
    (u_InvalidPosition_NoMove : PySem.W.subIn K (.ref C_InvalidPosition) (.ref C_NoMove) = some false)
    (u_InvalidNumber_NoMove : PySem.W.subIn K (.ref C_InvalidNumber) (.ref C_NoMove) = some false)
    (u_InvalidHistory_NoMove : PySem.W.subIn K (.ref C_InvalidHistory) (.ref C_NoMove) = some false)
    (u_InvalidScript_NoMove : PySem.W.subIn K (.ref C_InvalidScript) (.ref C_NoMove) = some false)
    (u_InvalidFacts_NoMove : PySem.W.subIn K (.ref C_InvalidFacts) (.ref C_NoMove) = some false)
    (u_NothingToUndo_NoMove : PySem.W.subIn K (.ref C_NothingToUndo) (.ref C_NoMove) = some false)
    (u_InvalidCommand_NoMove : PySem.W.subIn K (.ref C_InvalidCommand) (.ref C_NoMove) = some false)
    (u_SlashError_NotEscaped : PySem.W.subIn K (.ref C_SlashError) (.ref C_NotEscaped) = some false)
    (u_TooLong_NotEscaped : PySem.W.subIn K (.ref C_TooLong) (.ref C_NotEscaped) = some false)
    (u_Contradiction_NotEscaped : PySem.W.subIn K (.ref C_Contradiction) (.ref C_NotEscaped) = some false)
    (u_ParseError_NotEscaped : PySem.W.subIn K (.ref C_ParseError) (.ref C_NotEscaped) = some false)
    (u_InvalidText_NotEscaped : PySem.W.subIn K (.ref C_InvalidText) (.ref C_NotEscaped) = some false)
    (u_InvalidSymbols_NotEscaped : PySem.W.subIn K (.ref C_InvalidSymbols) (.ref C_NotEscaped) = some false)
    (u_InvalidPosition_NotEscaped : PySem.W.subIn K (.ref C_InvalidPosition) (.ref C_NotEscaped) = some false)
    (u_InvalidNumber_NotEscaped : PySem.W.subIn K (.ref C_InvalidNumber) (.ref C_NotEscaped) = some false)
    (u_InvalidHistory_NotEscaped : PySem.W.subIn K (.ref C_InvalidHistory) (.ref C_NotEscaped) = some false)
    (u_InvalidScript_NotEscaped : PySem.W.subIn K (.ref C_InvalidScript) (.ref C_NotEscaped) = some false)
    (u_InvalidFacts_NotEscaped : PySem.W.subIn K (.ref C_InvalidFacts) (.ref C_NotEscaped) = some false)
    (u_NoMove_NotEscaped : PySem.W.subIn K (.ref C_NoMove) (.ref C_NotEscaped) = some false)
    (u_NothingToUndo_NotEscaped : PySem.W.subIn K (.ref C_NothingToUndo) (.ref C_NotEscaped) = some false)
    (u_InvalidCommand_NotEscaped : PySem.W.subIn K (.ref C_InvalidCommand) (.ref C_NotEscaped) = some false)
    (u_SlashError_NothingToUndo : PySem.W.subIn K (.ref C_SlashError) (.ref C_NothingToUndo) = some false)
    (u_NotEscaped_NothingToUndo : PySem.W.subIn K (.ref C_NotEscaped) (.ref C_NothingToUndo) = some false)
    (u_TooLong_NothingToUndo : PySem.W.subIn K (.ref C_TooLong) (.ref C_NothingToUndo) = some false)
    (u_Contradiction_NothingToUndo : PySem.W.subIn K (.ref C_Contradiction) (.ref C_NothingToUndo) = some false)
    (u_ParseError_NothingToUndo : PySem.W.subIn K (.ref C_ParseError) (.ref C_NothingToUndo) = some false)
    (u_InvalidText_NothingToUndo : PySem.W.subIn K (.ref C_InvalidText) (.ref C_NothingToUndo) = some false)
    (u_InvalidSymbols_NothingToUndo : PySem.W.subIn K (.ref C_InvalidSymbols) (.ref C_NothingToUndo) = some false)
    (u_InvalidPosition_NothingToUndo : PySem.W.subIn K (.ref C_InvalidPosition) (.ref C_NothingToUndo) = some false)
    (u_InvalidNumber_NothingToUndo : PySem.W.subIn K (.ref C_InvalidNumber) (.ref C_NothingToUndo) = some false)
    (u_InvalidHistory_NothingToUndo : PySem.W.subIn K (.ref C_InvalidHistory) (.ref C_NothingToUndo) = some false)
    (u_InvalidScript_NothingToUndo : PySem.W.subIn K (.ref C_InvalidScript) (.ref C_NothingToUndo) = some false)
    (u_InvalidFacts_NothingToUndo : PySem.W.subIn K (.ref C_InvalidFacts) (.ref C_NothingToUndo) = some false)
    (u_NoMove_NothingToUndo : PySem.W.subIn K (.ref C_NoMove) (.ref C_NothingToUndo) = some false)
    (u_InvalidCommand_NothingToUndo : PySem.W.subIn K (.ref C_InvalidCommand) (.ref C_NothingToUndo) = some false)
    (u_SlashError_ParseError : PySem.W.subIn K (.ref C_SlashError) (.ref C_ParseError) = some false)
    (u_NotEscaped_ParseError : PySem.W.subIn K (.ref C_NotEscaped) (.ref C_ParseError) = some false)
    (u_TooLong_ParseError : PySem.W.subIn K (.ref C_TooLong) (.ref C_ParseError) = some false)
    (u_Contradiction_ParseError : PySem.W.subIn K (.ref C_Contradiction) (.ref C_ParseError) = some false)
    (u_InvalidText_ParseError : PySem.W.subIn K (.ref C_InvalidText) (.ref C_ParseError) = some false)
    (u_InvalidSymbols_ParseError : PySem.W.subIn K (.ref C_InvalidSymbols) (.ref C_ParseError) = some false)
    (u_InvalidPosition_ParseError : PySem.W.subIn K (.ref C_InvalidPosition) (.ref C_ParseError) = some false)
    (u_InvalidNumber_ParseError : PySem.W.subIn K (.ref C_InvalidNumber) (.ref C_ParseError) = some false)
    (u_InvalidHistory_ParseError : PySem.W.subIn K (.ref C_InvalidHistory) (.ref C_ParseError) = some false)
    (u_InvalidScript_ParseError : PySem.W.subIn K (.ref C_InvalidScript) (.ref C_ParseError) = some false)
    (u_InvalidFacts_ParseError : PySem.W.subIn K (.ref C_InvalidFacts) (.ref C_ParseError) = some false)
    (u_NoMove_ParseError : PySem.W.subIn K (.ref C_NoMove) (.ref C_ParseError) = some false)
    (u_NothingToUndo_ParseError : PySem.W.subIn K (.ref C_NothingToUndo) (.ref C_ParseError) = some false)
    (u_InvalidCommand_ParseError : PySem.W.subIn K (.ref C_InvalidCommand) (.ref C_ParseError) = some false)
    (u_NotEscaped_SlashError : PySem.W.subIn K (.ref C_NotEscaped) (.ref C_SlashError) = some true)
    (u_TooLong_SlashError : PySem.W.subIn K (.ref C_TooLong) (.ref C_SlashError) = some true)
    (u_Contradiction_SlashError : PySem.W.subIn K (.ref C_Contradiction) (.ref C_SlashError) = some true)
    (u_ParseError_SlashError : PySem.W.subIn K (.ref C_ParseError) (.ref C_SlashError) = some true)
    (u_InvalidText_SlashError : PySem.W.subIn K (.ref C_InvalidText) (.ref C_SlashError) = some true)
    (u_InvalidSymbols_SlashError : PySem.W.subIn K (.ref C_InvalidSymbols) (.ref C_SlashError) = some true)
    (u_InvalidPosition_SlashError : PySem.W.subIn K (.ref C_InvalidPosition) (.ref C_SlashError) = some true)
    (u_InvalidNumber_SlashError : PySem.W.subIn K (.ref C_InvalidNumber) (.ref C_SlashError) = some true)
    (u_InvalidHistory_SlashError : PySem.W.subIn K (.ref C_InvalidHistory) (.ref C_SlashError) = some true)
    (u_InvalidScript_SlashError : PySem.W.subIn K (.ref C_InvalidScript) (.ref C_SlashError) = some true)
    (u_InvalidFacts_SlashError : PySem.W.subIn K (.ref C_InvalidFacts) (.ref C_SlashError) = some true)
    (u_NoMove_SlashError : PySem.W.subIn K (.ref C_NoMove) (.ref C_SlashError) = some true)
    (u_NothingToUndo_SlashError : PySem.W.subIn K (.ref C_NothingToUndo) (.ref C_SlashError) = some true)
    (u_InvalidCommand_SlashError : PySem.W.subIn K (.ref C_InvalidCommand) (.ref C_SlashError) = some true)
    (u_SlashError_TooLong : PySem.W.subIn K (.ref C_SlashError) (.ref C_TooLong) = some false)
    (u_NotEscaped_TooLong : PySem.W.subIn K (.ref C_NotEscaped) (.ref C_TooLong) = some false)
    (u_Contradiction_TooLong : PySem.W.subIn K (.ref C_Contradiction) (.ref C_TooLong) = some false)
    (u_ParseError_TooLong : PySem.W.subIn K (.ref C_ParseError) (.ref C_TooLong) = some false)
    (u_InvalidText_TooLong : PySem.W.subIn K (.ref C_InvalidText) (.ref C_TooLong) = some false)
    (u_InvalidSymbols_TooLong : PySem.W.subIn K (.ref C_InvalidSymbols) (.ref C_TooLong) = some false)
    (u_InvalidPosition_TooLong : PySem.W.subIn K (.ref C_InvalidPosition) (.ref C_TooLong) = some false)
    (u_InvalidNumber_TooLong : PySem.W.subIn K (.ref C_InvalidNumber) (.ref C_TooLong) = some false)
    (u_InvalidHistory_TooLong : PySem.W.subIn K (.ref C_InvalidHistory) (.ref C_TooLong) = some false)
    (u_InvalidScript_TooLong : PySem.W.subIn K (.ref C_InvalidScript) (.ref C_TooLong) = some false)
    (u_InvalidFacts_TooLong : PySem.W.subIn K (.ref C_InvalidFacts) (.ref C_TooLong) = some false)
    (u_NoMove_TooLong : PySem.W.subIn K (.ref C_NoMove) (.ref C_TooLong) = some false)
    (u_NothingToUndo_TooLong : PySem.W.subIn K (.ref C_NothingToUndo) (.ref C_TooLong) = some false)
    (u_InvalidCommand_TooLong : PySem.W.subIn K (.ref C_InvalidCommand) (.ref C_TooLong) = some false)
    (xe_InvalidCommand : PySem.W.excIn K C_InvalidCommand [.type "ValueError", .type "Exception", .type "BaseException", .type "object"] "ValueError.__new__" = true)
    (xe_InvalidFacts : PySem.W.excIn K C_InvalidFacts [.type "ValueError", .type "Exception", .type "BaseException", .type "object"] "ValueError.__new__" = true)
    (xe_InvalidHistory : PySem.W.excIn K C_InvalidHistory [.type "ValueError", .type "Exception", .type "BaseException", .type "object"] "ValueError.__new__" = true)
    (xe_InvalidNumber : PySem.W.excIn K C_InvalidNumber [.type "ValueError", .type "Exception", .type "BaseException", .type "object"] "ValueError.__new__" = true)
    (xe_InvalidPosition : PySem.W.excIn K C_InvalidPosition [.type "ValueError", .type "Exception", .type "BaseException", .type "object"] "ValueError.__new__" = true)
    (xe_InvalidScript : PySem.W.excIn K C_InvalidScript [.type "ValueError", .type "Exception", .type "BaseException", .type "object"] "ValueError.__new__" = true)
    (xe_InvalidSymbols : PySem.W.excIn K C_InvalidSymbols [.type "ValueError", .type "Exception", .type "BaseException", .type "object"] "ValueError.__new__" = true)
    (xe_InvalidText : PySem.W.excIn K C_InvalidText [.type "ValueError", .type "Exception", .type "BaseException", .type "object"] "ValueError.__new__" = true)
    (xe_NoMove : PySem.W.excIn K C_NoMove [.type "ValueError", .type "Exception", .type "BaseException", .type "object"] "ValueError.__new__" = true)
    (xe_NothingToUndo : PySem.W.excIn K C_NothingToUndo [.type "ValueError", .type "Exception", .type "BaseException", .type "object"] "ValueError.__new__" = true)
    (n_Contradiction_indices : PySem.W.findIn K (.ref C_Contradiction) "indices" = some none)
    (n_NotEscaped_position : PySem.W.findIn K (.ref C_NotEscaped) "position" = some none)
    (n_ParseError_index : PySem.W.findIn K (.ref C_ParseError) "index" = some none)
    (n_TooLong_length : PySem.W.findIn K (.ref C_TooLong) "length" = some none)
    (xx_SlashError : PySem.W.specialIn K (.ref C_SlashError) "__getattribute__" = some (some (.builtin "type.__getattribute__"))) (xy_SlashError : PySem.W.readsIn K C_SlashError (.type "type") = true) (xz_SlashError : PySem.W.findCls K (.ref C_SlashError) (.type "type") "__init__" = some (.val (.builtin "ValueError.__init__")))
    {nm_Contradiction qn_Contradiction : Str} {N_Contradiction : Addr} {bs_Contradiction : List Value} {sn_Contradiction : List Str} {sub_Contradiction : List Value} {ab_Contradiction : Bool} {col_Contradiction : Option Bool} {dd_Contradiction : Option Addr} {m0_Contradiction m1_Contradiction m2_Contradiction m3_Contradiction m5_Contradiction : Option Value}
    (xL_Contradiction : K.lookup C_Contradiction = some (excClassObj nm_Contradiction qn_Contradiction C_Contradiction N_Contradiction bs_Contradiction (.ref C_SlashError :: [.type "ValueError", .type "Exception", .type "BaseException", .type "object"]) true sn_Contradiction sub_Contradiction ab_Contradiction col_Contradiction dd_Contradiction m0_Contradiction m1_Contradiction m2_Contradiction m3_Contradiction m5_Contradiction "ValueError.__new__")) (sa_Contradiction : PySem.W.findIn K (.ref C_Contradiction) "__setattr__" = some (some (.builtin "object.__setattr__")))
    {nm_NotEscaped qn_NotEscaped : Str} {N_NotEscaped : Addr} {bs_NotEscaped : List Value} {sn_NotEscaped : List Str} {sub_NotEscaped : List Value} {ab_NotEscaped : Bool} {col_NotEscaped : Option Bool} {dd_NotEscaped : Option Addr} {m0_NotEscaped m1_NotEscaped m2_NotEscaped m3_NotEscaped m5_NotEscaped : Option Value}
    (xL_NotEscaped : K.lookup C_NotEscaped = some (excClassObj nm_NotEscaped qn_NotEscaped C_NotEscaped N_NotEscaped bs_NotEscaped (.ref C_SlashError :: [.type "ValueError", .type "Exception", .type "BaseException", .type "object"]) true sn_NotEscaped sub_NotEscaped ab_NotEscaped col_NotEscaped dd_NotEscaped m0_NotEscaped m1_NotEscaped m2_NotEscaped m3_NotEscaped m5_NotEscaped "ValueError.__new__")) (sa_NotEscaped : PySem.W.findIn K (.ref C_NotEscaped) "__setattr__" = some (some (.builtin "object.__setattr__")))
    {nm_ParseError qn_ParseError : Str} {N_ParseError : Addr} {bs_ParseError : List Value} {sn_ParseError : List Str} {sub_ParseError : List Value} {ab_ParseError : Bool} {col_ParseError : Option Bool} {dd_ParseError : Option Addr} {m0_ParseError m1_ParseError m2_ParseError m3_ParseError m5_ParseError : Option Value}
    (xL_ParseError : K.lookup C_ParseError = some (excClassObj nm_ParseError qn_ParseError C_ParseError N_ParseError bs_ParseError (.ref C_SlashError :: [.type "ValueError", .type "Exception", .type "BaseException", .type "object"]) true sn_ParseError sub_ParseError ab_ParseError col_ParseError dd_ParseError m0_ParseError m1_ParseError m2_ParseError m3_ParseError m5_ParseError "ValueError.__new__")) (sa_ParseError : PySem.W.findIn K (.ref C_ParseError) "__setattr__" = some (some (.builtin "object.__setattr__")))
    {nm_TooLong qn_TooLong : Str} {N_TooLong : Addr} {bs_TooLong : List Value} {sn_TooLong : List Str} {sub_TooLong : List Value} {ab_TooLong : Bool} {col_TooLong : Option Bool} {dd_TooLong : Option Addr} {m0_TooLong m1_TooLong m2_TooLong m3_TooLong m5_TooLong : Option Value}
    (xL_TooLong : K.lookup C_TooLong = some (excClassObj nm_TooLong qn_TooLong C_TooLong N_TooLong bs_TooLong (.ref C_SlashError :: [.type "ValueError", .type "Exception", .type "BaseException", .type "object"]) true sn_TooLong sub_TooLong ab_TooLong col_TooLong dd_TooLong m0_TooLong m1_TooLong m2_TooLong m3_TooLong m5_TooLong "ValueError.__new__")) (sa_TooLong : PySem.W.findIn K (.ref C_TooLong) "__setattr__" = some (some (.builtin "object.__setattr__")))
    {f_NotEscaped_init : Addr} {od_NotEscaped_init an_NotEscaped_init : Option Addr} {sl_NotEscaped_init : Array (Option Value)} {oc_NotEscaped_init kV_NotEscaped_init dc_NotEscaped_init pm_NotEscaped_init cd_NotEscaped_init ct_NotEscaped_init : Value}
    (a_NotEscaped_init : PySem.W.findIn K (.ref C_NotEscaped) "__init__" = some (some (.ref f_NotEscaped_init))) (i_NotEscaped_init : PySem.W.isFn K (.ref f_NotEscaped_init) = true) (l_NotEscaped_init : K.lookup f_NotEscaped_init = some ⟨oc_NotEscaped_init, od_NotEscaped_init, .func (PySem.W.fnOf "__init__" "NotEscaped.__init__" (defArgs s_NotEscaped_init) (defBody s_NotEscaped_init) (defScope s_NotEscaped_init) .none kV_NotEscaped_init dc_NotEscaped_init pm_NotEscaped_init an_NotEscaped_init cd_NotEscaped_init ct_NotEscaped_init), sl_NotEscaped_init⟩) (y_NotEscaped_init : PySem.W.codeIn K cd_NotEscaped_init "NotEscaped.__init__" = true) (k_NotEscaped_init : PySem.W.keepIn K (.ref f_NotEscaped_init) = true)
    (ty_NotEscaped_init : PySem.W.typeIn K (.ref f_NotEscaped_init) = some (.type "function"))
    {f_TooLong_init : Addr} {od_TooLong_init an_TooLong_init : Option Addr} {sl_TooLong_init : Array (Option Value)} {oc_TooLong_init kV_TooLong_init dc_TooLong_init pm_TooLong_init cd_TooLong_init ct_TooLong_init : Value}
    (a_TooLong_init : PySem.W.findIn K (.ref C_TooLong) "__init__" = some (some (.ref f_TooLong_init))) (i_TooLong_init : PySem.W.isFn K (.ref f_TooLong_init) = true) (l_TooLong_init : K.lookup f_TooLong_init = some ⟨oc_TooLong_init, od_TooLong_init, .func (PySem.W.fnOf "__init__" "TooLong.__init__" (defArgs s_TooLong_init) (defBody s_TooLong_init) (defScope s_TooLong_init) .none kV_TooLong_init dc_TooLong_init pm_TooLong_init an_TooLong_init cd_TooLong_init ct_TooLong_init), sl_TooLong_init⟩) (y_TooLong_init : PySem.W.codeIn K cd_TooLong_init "TooLong.__init__" = true) (k_TooLong_init : PySem.W.keepIn K (.ref f_TooLong_init) = true)
    (ty_TooLong_init : PySem.W.typeIn K (.ref f_TooLong_init) = some (.type "function"))
    {f_Contradiction_init : Addr} {od_Contradiction_init an_Contradiction_init : Option Addr} {sl_Contradiction_init : Array (Option Value)} {oc_Contradiction_init kV_Contradiction_init dc_Contradiction_init pm_Contradiction_init cd_Contradiction_init ct_Contradiction_init : Value}
    (a_Contradiction_init : PySem.W.findIn K (.ref C_Contradiction) "__init__" = some (some (.ref f_Contradiction_init))) (i_Contradiction_init : PySem.W.isFn K (.ref f_Contradiction_init) = true) (l_Contradiction_init : K.lookup f_Contradiction_init = some ⟨oc_Contradiction_init, od_Contradiction_init, .func (PySem.W.fnOf "__init__" "Contradiction.__init__" (defArgs s_Contradiction_init) (defBody s_Contradiction_init) (defScope s_Contradiction_init) .none kV_Contradiction_init dc_Contradiction_init pm_Contradiction_init an_Contradiction_init cd_Contradiction_init ct_Contradiction_init), sl_Contradiction_init⟩) (y_Contradiction_init : PySem.W.codeIn K cd_Contradiction_init "Contradiction.__init__" = true) (k_Contradiction_init : PySem.W.keepIn K (.ref f_Contradiction_init) = true)
    (ty_Contradiction_init : PySem.W.typeIn K (.ref f_Contradiction_init) = some (.type "function"))
    {f_ParseError_init : Addr} {od_ParseError_init an_ParseError_init : Option Addr} {sl_ParseError_init : Array (Option Value)} {oc_ParseError_init kV_ParseError_init dc_ParseError_init pm_ParseError_init cd_ParseError_init ct_ParseError_init : Value}
    (a_ParseError_init : PySem.W.findIn K (.ref C_ParseError) "__init__" = some (some (.ref f_ParseError_init))) (i_ParseError_init : PySem.W.isFn K (.ref f_ParseError_init) = true) (l_ParseError_init : K.lookup f_ParseError_init = some ⟨oc_ParseError_init, od_ParseError_init, .func (PySem.W.fnOf "__init__" "ParseError.__init__" (defArgs s_ParseError_init) (defBody s_ParseError_init) (defScope s_ParseError_init) .none kV_ParseError_init dc_ParseError_init pm_ParseError_init an_ParseError_init cd_ParseError_init ct_ParseError_init), sl_ParseError_init⟩) (y_ParseError_init : PySem.W.codeIn K cd_ParseError_init "ParseError.__init__" = true) (k_ParseError_init : PySem.W.keepIn K (.ref f_ParseError_init) = true)
    (ty_ParseError_init : PySem.W.typeIn K (.ref f_ParseError_init) = some (.type "function"))
    {f_Part_init : Addr} {od_Part_init an_Part_init : Option Addr} {sl_Part_init : Array (Option Value)} {oc_Part_init kV_Part_init dc_Part_init pm_Part_init cd_Part_init ct_Part_init : Value}
    (a_Part_init : PySem.W.findIn K (.ref C_Part) "__init__" = some (some (.ref f_Part_init))) (i_Part_init : PySem.W.isFn K (.ref f_Part_init) = true) (l_Part_init : K.lookup f_Part_init = some ⟨oc_Part_init, od_Part_init, .func (PySem.W.fnOf "__init__" "Part.__init__" (defArgs s_Part_init) (defBody s_Part_init) (defScope s_Part_init) .none kV_Part_init dc_Part_init pm_Part_init an_Part_init cd_Part_init ct_Part_init), sl_Part_init⟩) (y_Part_init : PySem.W.codeIn K cd_Part_init "Part.__init__" = true) (k_Part_init : PySem.W.keepIn K (.ref f_Part_init) = true)
    {f_is_integer : Addr} {od_is_integer an_is_integer : Option Addr} {sl_is_integer : Array (Option Value)} {oc_is_integer kV_is_integer dc_is_integer pm_is_integer cd_is_integer ct_is_integer : Value} {T_is_integer : Addr} {oT_is_integer : Value} {dT_is_integer : Option Addr} {nT_is_integer : Nat} {slT_is_integer : Array (Option Value)}
    (a_is_integer : PySem.W.nsIn K mainGlobals "is_integer" = some (some (.ref f_is_integer))) (l_is_integer : K.lookup f_is_integer = some ⟨oc_is_integer, od_is_integer, .func (PySem.W.fnOf "is_integer" "is_integer" (defArgs s_is_integer) (defBody s_is_integer) (defScope s_is_integer) (.ref T_is_integer) kV_is_integer dc_is_integer pm_is_integer an_is_integer cd_is_integer ct_is_integer), sl_is_integer⟩) (y_is_integer : PySem.W.codeIn K cd_is_integer "is_integer" = true) (k_is_integer : PySem.W.keepIn K (.ref f_is_integer) = true)
    (t_is_integer : K.lookup T_is_integer = some ⟨oT_is_integer, dT_is_integer, .seq #[.none] nT_is_integer, slT_is_integer⟩)
    {f_is_symbol : Addr} {od_is_symbol an_is_symbol : Option Addr} {sl_is_symbol : Array (Option Value)} {oc_is_symbol kV_is_symbol dc_is_symbol pm_is_symbol cd_is_symbol ct_is_symbol : Value}
    (a_is_symbol : PySem.W.nsIn K mainGlobals "is_symbol" = some (some (.ref f_is_symbol))) (l_is_symbol : K.lookup f_is_symbol = some ⟨oc_is_symbol, od_is_symbol, .func (PySem.W.fnOf "is_symbol" "is_symbol" (defArgs s_is_symbol) (defBody s_is_symbol) (defScope s_is_symbol) .none kV_is_symbol dc_is_symbol pm_is_symbol an_is_symbol cd_is_symbol ct_is_symbol), sl_is_symbol⟩) (y_is_symbol : PySem.W.codeIn K cd_is_symbol "is_symbol" = true) (k_is_symbol : PySem.W.keepIn K (.ref f_is_symbol) = true)
    {f_is_run : Addr} {od_is_run an_is_run : Option Addr} {sl_is_run : Array (Option Value)} {oc_is_run kV_is_run dc_is_run pm_is_run cd_is_run ct_is_run : Value}
    (a_is_run : PySem.W.nsIn K mainGlobals "is_run" = some (some (.ref f_is_run))) (l_is_run : K.lookup f_is_run = some ⟨oc_is_run, od_is_run, .func (PySem.W.fnOf "is_run" "is_run" (defArgs s_is_run) (defBody s_is_run) (defScope s_is_run) .none kV_is_run dc_is_run pm_is_run an_is_run cd_is_run ct_is_run), sl_is_run⟩) (y_is_run : PySem.W.codeIn K cd_is_run "is_run" = true) (k_is_run : PySem.W.keepIn K (.ref f_is_run) = true)
    {f_is_text : Addr} {od_is_text an_is_text : Option Addr} {sl_is_text : Array (Option Value)} {oc_is_text kV_is_text dc_is_text pm_is_text cd_is_text ct_is_text : Value}
    (a_is_text : PySem.W.nsIn K mainGlobals "is_text" = some (some (.ref f_is_text))) (l_is_text : K.lookup f_is_text = some ⟨oc_is_text, od_is_text, .func (PySem.W.fnOf "is_text" "is_text" (defArgs s_is_text) (defBody s_is_text) (defScope s_is_text) .none kV_is_text dc_is_text pm_is_text an_is_text cd_is_text ct_is_text), sl_is_text⟩) (y_is_text : PySem.W.codeIn K cd_is_text "is_text" = true) (k_is_text : PySem.W.keepIn K (.ref f_is_text) = true)
    {f_checked_text : Addr} {od_checked_text an_checked_text : Option Addr} {sl_checked_text : Array (Option Value)} {oc_checked_text kV_checked_text dc_checked_text pm_checked_text cd_checked_text ct_checked_text : Value}
    (a_checked_text : PySem.W.nsIn K mainGlobals "checked_text" = some (some (.ref f_checked_text))) (l_checked_text : K.lookup f_checked_text = some ⟨oc_checked_text, od_checked_text, .func (PySem.W.fnOf "checked_text" "checked_text" (defArgs s_checked_text) (defBody s_checked_text) (defScope s_checked_text) .none kV_checked_text dc_checked_text pm_checked_text an_checked_text cd_checked_text ct_checked_text), sl_checked_text⟩) (y_checked_text : PySem.W.codeIn K cd_checked_text "checked_text" = true) (k_checked_text : PySem.W.keepIn K (.ref f_checked_text) = true)
    {f_add_run : Addr} {od_add_run an_add_run : Option Addr} {sl_add_run : Array (Option Value)} {oc_add_run kV_add_run dc_add_run pm_add_run cd_add_run ct_add_run : Value}
    (a_add_run : PySem.W.nsIn K mainGlobals "add_run" = some (some (.ref f_add_run))) (l_add_run : K.lookup f_add_run = some ⟨oc_add_run, od_add_run, .func (PySem.W.fnOf "add_run" "add_run" (defArgs s_add_run) (defBody s_add_run) (defScope s_add_run) .none kV_add_run dc_add_run pm_add_run an_add_run cd_add_run ct_add_run), sl_add_run⟩) (y_add_run : PySem.W.codeIn K cd_add_run "add_run" = true) (k_add_run : PySem.W.keepIn K (.ref f_add_run) = true)
    {f_add_runs : Addr} {od_add_runs an_add_runs : Option Addr} {sl_add_runs : Array (Option Value)} {oc_add_runs kV_add_runs dc_add_runs pm_add_runs cd_add_runs ct_add_runs : Value}
    (a_add_runs : PySem.W.nsIn K mainGlobals "add_runs" = some (some (.ref f_add_runs))) (l_add_runs : K.lookup f_add_runs = some ⟨oc_add_runs, od_add_runs, .func (PySem.W.fnOf "add_runs" "add_runs" (defArgs s_add_runs) (defBody s_add_runs) (defScope s_add_runs) .none kV_add_runs dc_add_runs pm_add_runs an_add_runs cd_add_runs ct_add_runs), sl_add_runs⟩) (y_add_runs : PySem.W.codeIn K cd_add_runs "add_runs" = true) (k_add_runs : PySem.W.keepIn K (.ref f_add_runs) = true)
    {f_y_appended : Addr} {od_y_appended an_y_appended : Option Addr} {sl_y_appended : Array (Option Value)} {oc_y_appended kV_y_appended dc_y_appended pm_y_appended cd_y_appended ct_y_appended : Value}
    (a_y_appended : PySem.W.nsIn K mainGlobals "appended" = some (some (.ref f_y_appended))) (l_y_appended : K.lookup f_y_appended = some ⟨oc_y_appended, od_y_appended, .func (PySem.W.fnOf "appended" "appended" (defArgs s_y_appended) (defBody s_y_appended) (defScope s_y_appended) .none kV_y_appended dc_y_appended pm_y_appended an_y_appended cd_y_appended ct_y_appended), sl_y_appended⟩) (y_y_appended : PySem.W.codeIn K cd_y_appended "appended" = true) (k_y_appended : PySem.W.keepIn K (.ref f_y_appended) = true)
    {f_check_escapes : Addr} {od_check_escapes an_check_escapes : Option Addr} {sl_check_escapes : Array (Option Value)} {oc_check_escapes kV_check_escapes dc_check_escapes pm_check_escapes cd_check_escapes ct_check_escapes : Value}
    (a_check_escapes : PySem.W.nsIn K mainGlobals "check_escapes" = some (some (.ref f_check_escapes))) (l_check_escapes : K.lookup f_check_escapes = some ⟨oc_check_escapes, od_check_escapes, .func (PySem.W.fnOf "check_escapes" "check_escapes" (defArgs s_check_escapes) (defBody s_check_escapes) (defScope s_check_escapes) .none kV_check_escapes dc_check_escapes pm_check_escapes an_check_escapes cd_check_escapes ct_check_escapes), sl_check_escapes⟩) (y_check_escapes : PySem.W.codeIn K cd_check_escapes "check_escapes" = true) (k_check_escapes : PySem.W.keepIn K (.ref f_check_escapes) = true)
    {f_power_of_two : Addr} {od_power_of_two an_power_of_two : Option Addr} {sl_power_of_two : Array (Option Value)} {oc_power_of_two kV_power_of_two dc_power_of_two pm_power_of_two cd_power_of_two ct_power_of_two : Value}
    (a_power_of_two : PySem.W.nsIn K mainGlobals "power_of_two" = some (some (.ref f_power_of_two))) (l_power_of_two : K.lookup f_power_of_two = some ⟨oc_power_of_two, od_power_of_two, .func (PySem.W.fnOf "power_of_two" "power_of_two" (defArgs s_power_of_two) (defBody s_power_of_two) (defScope s_power_of_two) .none kV_power_of_two dc_power_of_two pm_power_of_two an_power_of_two cd_power_of_two ct_power_of_two), sl_power_of_two⟩) (y_power_of_two : PySem.W.codeIn K cd_power_of_two "power_of_two" = true) (k_power_of_two : PySem.W.keepIn K (.ref f_power_of_two) = true)
    {f_Part_is_group : Addr} {od_Part_is_group an_Part_is_group : Option Addr} {sl_Part_is_group : Array (Option Value)} {oc_Part_is_group kV_Part_is_group dc_Part_is_group pm_Part_is_group cd_Part_is_group ct_Part_is_group : Value}
    (a_Part_is_group : PySem.W.findIn K (.ref C_Part) "is_group" = some (some (.ref f_Part_is_group))) (i_Part_is_group : PySem.W.isFn K (.ref f_Part_is_group) = true) (l_Part_is_group : K.lookup f_Part_is_group = some ⟨oc_Part_is_group, od_Part_is_group, .func (PySem.W.fnOf "is_group" "Part.is_group" (defArgs s_Part_is_group) (defBody s_Part_is_group) (defScope s_Part_is_group) .none kV_Part_is_group dc_Part_is_group pm_Part_is_group an_Part_is_group cd_Part_is_group ct_Part_is_group), sl_Part_is_group⟩) (y_Part_is_group : PySem.W.codeIn K cd_Part_is_group "Part.is_group" = true) (k_Part_is_group : PySem.W.keepIn K (.ref f_Part_is_group) = true)
    {f_parts_of : Addr} {od_parts_of an_parts_of : Option Addr} {sl_parts_of : Array (Option Value)} {oc_parts_of kV_parts_of dc_parts_of pm_parts_of cd_parts_of ct_parts_of : Value}
    (a_parts_of : PySem.W.nsIn K mainGlobals "parts_of" = some (some (.ref f_parts_of))) (l_parts_of : K.lookup f_parts_of = some ⟨oc_parts_of, od_parts_of, .func (PySem.W.fnOf "parts_of" "parts_of" (defArgs s_parts_of) (defBody s_parts_of) (defScope s_parts_of) .none kV_parts_of dc_parts_of pm_parts_of an_parts_of cd_parts_of ct_parts_of), sl_parts_of⟩) (y_parts_of : PySem.W.codeIn K cd_parts_of "parts_of" = true) (k_parts_of : PySem.W.keepIn K (.ref f_parts_of) = true)
    {f_add_group : Addr} {od_add_group an_add_group : Option Addr} {sl_add_group : Array (Option Value)} {oc_add_group kV_add_group dc_add_group pm_add_group cd_add_group ct_add_group : Value}
    (a_add_group : PySem.W.nsIn K mainGlobals "add_group" = some (some (.ref f_add_group))) (l_add_group : K.lookup f_add_group = some ⟨oc_add_group, od_add_group, .func (PySem.W.fnOf "add_group" "add_group" (defArgs s_add_group) (defBody s_add_group) (defScope s_add_group) .none kV_add_group dc_add_group pm_add_group an_add_group cd_add_group ct_add_group), sl_add_group⟩) (y_add_group : PySem.W.codeIn K cd_add_group "add_group" = true) (k_add_group : PySem.W.keepIn K (.ref f_add_group) = true)
    {f_escaped : Addr} {od_escaped an_escaped : Option Addr} {sl_escaped : Array (Option Value)} {oc_escaped kV_escaped dc_escaped pm_escaped cd_escaped ct_escaped : Value}
    (a_escaped : PySem.W.nsIn K mainGlobals "escaped" = some (some (.ref f_escaped))) (l_escaped : K.lookup f_escaped = some ⟨oc_escaped, od_escaped, .func (PySem.W.fnOf "escaped" "escaped" (defArgs s_escaped) (defBody s_escaped) (defScope s_escaped) .none kV_escaped dc_escaped pm_escaped an_escaped cd_escaped ct_escaped), sl_escaped⟩) (y_escaped : PySem.W.codeIn K cd_escaped "escaped" = true) (k_escaped : PySem.W.keepIn K (.ref f_escaped) = true)
    {f_escape : Addr} {od_escape an_escape : Option Addr} {sl_escape : Array (Option Value)} {oc_escape kV_escape dc_escape pm_escape cd_escape ct_escape : Value}
    (a_escape : PySem.W.nsIn K mainGlobals "escape" = some (some (.ref f_escape))) (l_escape : K.lookup f_escape = some ⟨oc_escape, od_escape, .func (PySem.W.fnOf "escape" "escape" (defArgs s_escape) (defBody s_escape) (defScope s_escape) .none kV_escape dc_escape pm_escape an_escape cd_escape ct_escape), sl_escape⟩) (y_escape : PySem.W.codeIn K cd_escape "escape" = true) (k_escape : PySem.W.keepIn K (.ref f_escape) = true)
    {f_add_block : Addr} {od_add_block an_add_block : Option Addr} {sl_add_block : Array (Option Value)} {oc_add_block kV_add_block dc_add_block pm_add_block cd_add_block ct_add_block : Value}
    (a_add_block : PySem.W.nsIn K mainGlobals "add_block" = some (some (.ref f_add_block))) (l_add_block : K.lookup f_add_block = some ⟨oc_add_block, od_add_block, .func (PySem.W.fnOf "add_block" "add_block" (defArgs s_add_block) (defBody s_add_block) (defScope s_add_block) .none kV_add_block dc_add_block pm_add_block an_add_block cd_add_block ct_add_block), sl_add_block⟩) (y_add_block : PySem.W.codeIn K cd_add_block "add_block" = true) (k_add_block : PySem.W.keepIn K (.ref f_add_block) = true)
    {f_Builder_init : Addr} {od_Builder_init an_Builder_init : Option Addr} {sl_Builder_init : Array (Option Value)} {oc_Builder_init kV_Builder_init dc_Builder_init pm_Builder_init cd_Builder_init ct_Builder_init : Value}
    (a_Builder_init : PySem.W.findIn K (.ref C_Builder) "__init__" = some (some (.ref f_Builder_init))) (i_Builder_init : PySem.W.isFn K (.ref f_Builder_init) = true) (l_Builder_init : K.lookup f_Builder_init = some ⟨oc_Builder_init, od_Builder_init, .func (PySem.W.fnOf "__init__" "Builder.__init__" (defArgs s_Builder_init) (defBody s_Builder_init) (defScope s_Builder_init) .none kV_Builder_init dc_Builder_init pm_Builder_init an_Builder_init cd_Builder_init ct_Builder_init), sl_Builder_init⟩) (y_Builder_init : PySem.W.codeIn K cd_Builder_init "Builder.__init__" = true) (k_Builder_init : PySem.W.keepIn K (.ref f_Builder_init) = true)
    {f_Builder___len__ : Addr} {od_Builder___len__ an_Builder___len__ : Option Addr} {sl_Builder___len__ : Array (Option Value)} {oc_Builder___len__ kV_Builder___len__ dc_Builder___len__ pm_Builder___len__ cd_Builder___len__ ct_Builder___len__ : Value}
    (a_Builder___len__ : PySem.W.findIn K (.ref C_Builder) "__len__" = some (some (.ref f_Builder___len__))) (i_Builder___len__ : PySem.W.isFn K (.ref f_Builder___len__) = true) (l_Builder___len__ : K.lookup f_Builder___len__ = some ⟨oc_Builder___len__, od_Builder___len__, .func (PySem.W.fnOf "__len__" "Builder.__len__" (defArgs s_Builder___len__) (defBody s_Builder___len__) (defScope s_Builder___len__) .none kV_Builder___len__ dc_Builder___len__ pm_Builder___len__ an_Builder___len__ cd_Builder___len__ ct_Builder___len__), sl_Builder___len__⟩) (y_Builder___len__ : PySem.W.codeIn K cd_Builder___len__ "Builder.__len__" = true) (k_Builder___len__ : PySem.W.keepIn K (.ref f_Builder___len__) = true)
    {f_Builder_latest : Addr} {od_Builder_latest an_Builder_latest : Option Addr} {sl_Builder_latest : Array (Option Value)} {oc_Builder_latest kV_Builder_latest dc_Builder_latest pm_Builder_latest cd_Builder_latest ct_Builder_latest : Value}
    (a_Builder_latest : PySem.W.findIn K (.ref C_Builder) "latest" = some (some (.ref f_Builder_latest))) (i_Builder_latest : PySem.W.isFn K (.ref f_Builder_latest) = true) (l_Builder_latest : K.lookup f_Builder_latest = some ⟨oc_Builder_latest, od_Builder_latest, .func (PySem.W.fnOf "latest" "Builder.latest" (defArgs s_Builder_latest) (defBody s_Builder_latest) (defScope s_Builder_latest) .none kV_Builder_latest dc_Builder_latest pm_Builder_latest an_Builder_latest cd_Builder_latest ct_Builder_latest), sl_Builder_latest⟩) (y_Builder_latest : PySem.W.codeIn K cd_Builder_latest "Builder.latest" = true) (k_Builder_latest : PySem.W.keepIn K (.ref f_Builder_latest) = true)
    {f_Builder_add_text : Addr} {od_Builder_add_text an_Builder_add_text : Option Addr} {sl_Builder_add_text : Array (Option Value)} {oc_Builder_add_text kV_Builder_add_text dc_Builder_add_text pm_Builder_add_text cd_Builder_add_text ct_Builder_add_text : Value}
    (a_Builder_add_text : PySem.W.findIn K (.ref C_Builder) "add_text" = some (some (.ref f_Builder_add_text))) (i_Builder_add_text : PySem.W.isFn K (.ref f_Builder_add_text) = true) (l_Builder_add_text : K.lookup f_Builder_add_text = some ⟨oc_Builder_add_text, od_Builder_add_text, .func (PySem.W.fnOf "add_text" "Builder.add_text" (defArgs s_Builder_add_text) (defBody s_Builder_add_text) (defScope s_Builder_add_text) .none kV_Builder_add_text dc_Builder_add_text pm_Builder_add_text an_Builder_add_text cd_Builder_add_text ct_Builder_add_text), sl_Builder_add_text⟩) (y_Builder_add_text : PySem.W.codeIn K cd_Builder_add_text "Builder.add_text" = true) (k_Builder_add_text : PySem.W.keepIn K (.ref f_Builder_add_text) = true)
    {f_Builder_escape_all : Addr} {od_Builder_escape_all an_Builder_escape_all : Option Addr} {sl_Builder_escape_all : Array (Option Value)} {oc_Builder_escape_all kV_Builder_escape_all dc_Builder_escape_all pm_Builder_escape_all cd_Builder_escape_all ct_Builder_escape_all : Value} {T_Builder_escape_all : Addr} {oT_Builder_escape_all : Value} {dT_Builder_escape_all : Option Addr} {nT_Builder_escape_all : Nat} {slT_Builder_escape_all : Array (Option Value)}
    (a_Builder_escape_all : PySem.W.findIn K (.ref C_Builder) "escape_all" = some (some (.ref f_Builder_escape_all))) (i_Builder_escape_all : PySem.W.isFn K (.ref f_Builder_escape_all) = true) (l_Builder_escape_all : K.lookup f_Builder_escape_all = some ⟨oc_Builder_escape_all, od_Builder_escape_all, .func (PySem.W.fnOf "escape_all" "Builder.escape_all" (defArgs s_Builder_escape_all) (defBody s_Builder_escape_all) (defScope s_Builder_escape_all) (.ref T_Builder_escape_all) kV_Builder_escape_all dc_Builder_escape_all pm_Builder_escape_all an_Builder_escape_all cd_Builder_escape_all ct_Builder_escape_all), sl_Builder_escape_all⟩) (y_Builder_escape_all : PySem.W.codeIn K cd_Builder_escape_all "Builder.escape_all" = true) (k_Builder_escape_all : PySem.W.keepIn K (.ref f_Builder_escape_all) = true)
    (t_Builder_escape_all : K.lookup T_Builder_escape_all = some ⟨oT_Builder_escape_all, dT_Builder_escape_all, .seq #[.int 1 t_Builder_escape_all] nT_Builder_escape_all, slT_Builder_escape_all⟩)
    {f_Builder_undo : Addr} {od_Builder_undo an_Builder_undo : Option Addr} {sl_Builder_undo : Array (Option Value)} {oc_Builder_undo kV_Builder_undo dc_Builder_undo pm_Builder_undo cd_Builder_undo ct_Builder_undo : Value}
    (a_Builder_undo : PySem.W.findIn K (.ref C_Builder) "undo" = some (some (.ref f_Builder_undo))) (i_Builder_undo : PySem.W.isFn K (.ref f_Builder_undo) = true) (l_Builder_undo : K.lookup f_Builder_undo = some ⟨oc_Builder_undo, od_Builder_undo, .func (PySem.W.fnOf "undo" "Builder.undo" (defArgs s_Builder_undo) (defBody s_Builder_undo) (defScope s_Builder_undo) .none kV_Builder_undo dc_Builder_undo pm_Builder_undo an_Builder_undo cd_Builder_undo ct_Builder_undo), sl_Builder_undo⟩) (y_Builder_undo : PySem.W.codeIn K cd_Builder_undo "Builder.undo" = true) (k_Builder_undo : PySem.W.keepIn K (.ref f_Builder_undo) = true)
    {f_Builder_current_text : Addr} {od_Builder_current_text an_Builder_current_text : Option Addr} {sl_Builder_current_text : Array (Option Value)} {oc_Builder_current_text kV_Builder_current_text dc_Builder_current_text pm_Builder_current_text cd_Builder_current_text ct_Builder_current_text : Value}
    (a_Builder_current_text : PySem.W.findIn K (.ref C_Builder) "current_text" = some (some (.ref f_Builder_current_text))) (i_Builder_current_text : PySem.W.isFn K (.ref f_Builder_current_text) = true) (l_Builder_current_text : K.lookup f_Builder_current_text = some ⟨oc_Builder_current_text, od_Builder_current_text, .func (PySem.W.fnOf "current_text" "Builder.current_text" (defArgs s_Builder_current_text) (defBody s_Builder_current_text) (defScope s_Builder_current_text) .none kV_Builder_current_text dc_Builder_current_text pm_Builder_current_text an_Builder_current_text cd_Builder_current_text ct_Builder_current_text), sl_Builder_current_text⟩) (y_Builder_current_text : PySem.W.codeIn K cd_Builder_current_text "Builder.current_text" = true) (k_Builder_current_text : PySem.W.keepIn K (.ref f_Builder_current_text) = true)
    {f_Builder_current_history : Addr} {od_Builder_current_history an_Builder_current_history : Option Addr} {sl_Builder_current_history : Array (Option Value)} {oc_Builder_current_history kV_Builder_current_history dc_Builder_current_history pm_Builder_current_history cd_Builder_current_history ct_Builder_current_history : Value}
    (a_Builder_current_history : PySem.W.findIn K (.ref C_Builder) "current_history" = some (some (.ref f_Builder_current_history))) (i_Builder_current_history : PySem.W.isFn K (.ref f_Builder_current_history) = true) (l_Builder_current_history : K.lookup f_Builder_current_history = some ⟨oc_Builder_current_history, od_Builder_current_history, .func (PySem.W.fnOf "current_history" "Builder.current_history" (defArgs s_Builder_current_history) (defBody s_Builder_current_history) (defScope s_Builder_current_history) .none kV_Builder_current_history dc_Builder_current_history pm_Builder_current_history an_Builder_current_history cd_Builder_current_history ct_Builder_current_history), sl_Builder_current_history⟩) (y_Builder_current_history : PySem.W.codeIn K cd_Builder_current_history "Builder.current_history" = true) (k_Builder_current_history : PySem.W.keepIn K (.ref f_Builder_current_history) = true)
    {f_Builder_escape_count : Addr} {od_Builder_escape_count an_Builder_escape_count : Option Addr} {sl_Builder_escape_count : Array (Option Value)} {oc_Builder_escape_count kV_Builder_escape_count dc_Builder_escape_count pm_Builder_escape_count cd_Builder_escape_count ct_Builder_escape_count : Value}
    (a_Builder_escape_count : PySem.W.findIn K (.ref C_Builder) "escape_count" = some (some (.ref f_Builder_escape_count))) (i_Builder_escape_count : PySem.W.isFn K (.ref f_Builder_escape_count) = true) (l_Builder_escape_count : K.lookup f_Builder_escape_count = some ⟨oc_Builder_escape_count, od_Builder_escape_count, .func (PySem.W.fnOf "escape_count" "Builder.escape_count" (defArgs s_Builder_escape_count) (defBody s_Builder_escape_count) (defScope s_Builder_escape_count) .none kV_Builder_escape_count dc_Builder_escape_count pm_Builder_escape_count an_Builder_escape_count cd_Builder_escape_count ct_Builder_escape_count), sl_Builder_escape_count⟩) (y_Builder_escape_count : PySem.W.codeIn K cd_Builder_escape_count "Builder.escape_count" = true) (k_Builder_escape_count : PySem.W.keepIn K (.ref f_Builder_escape_count) = true)
    {f_Builder_operations : Addr} {od_Builder_operations an_Builder_operations : Option Addr} {sl_Builder_operations : Array (Option Value)} {oc_Builder_operations kV_Builder_operations dc_Builder_operations pm_Builder_operations cd_Builder_operations ct_Builder_operations : Value}
    (a_Builder_operations : PySem.W.findIn K (.ref C_Builder) "operations" = some (some (.ref f_Builder_operations))) (i_Builder_operations : PySem.W.isFn K (.ref f_Builder_operations) = true) (l_Builder_operations : K.lookup f_Builder_operations = some ⟨oc_Builder_operations, od_Builder_operations, .func (PySem.W.fnOf "operations" "Builder.operations" (defArgs s_Builder_operations) (defBody s_Builder_operations) (defScope s_Builder_operations) .none kV_Builder_operations dc_Builder_operations pm_Builder_operations an_Builder_operations cd_Builder_operations ct_Builder_operations), sl_Builder_operations⟩) (y_Builder_operations : PySem.W.codeIn K cd_Builder_operations "Builder.operations" = true) (k_Builder_operations : PySem.W.keepIn K (.ref f_Builder_operations) = true)
    {f_Builder_state_after : Addr} {od_Builder_state_after an_Builder_state_after : Option Addr} {sl_Builder_state_after : Array (Option Value)} {oc_Builder_state_after kV_Builder_state_after dc_Builder_state_after pm_Builder_state_after cd_Builder_state_after ct_Builder_state_after : Value}
    (a_Builder_state_after : PySem.W.findIn K (.ref C_Builder) "state_after" = some (some (.ref f_Builder_state_after))) (i_Builder_state_after : PySem.W.isFn K (.ref f_Builder_state_after) = true) (l_Builder_state_after : K.lookup f_Builder_state_after = some ⟨oc_Builder_state_after, od_Builder_state_after, .func (PySem.W.fnOf "state_after" "Builder.state_after" (defArgs s_Builder_state_after) (defBody s_Builder_state_after) (defScope s_Builder_state_after) .none kV_Builder_state_after dc_Builder_state_after pm_Builder_state_after an_Builder_state_after cd_Builder_state_after ct_Builder_state_after), sl_Builder_state_after⟩) (y_Builder_state_after : PySem.W.codeIn K cd_Builder_state_after "Builder.state_after" = true) (k_Builder_state_after : PySem.W.keepIn K (.ref f_Builder_state_after) = true)
    {f_l_spring : Addr} {od_l_spring an_l_spring : Option Addr} {sl_l_spring : Array (Option Value)} {oc_l_spring kV_l_spring dc_l_spring pm_l_spring cd_l_spring ct_l_spring : Value}
    (a_l_spring : PySem.W.nsIn K mainGlobals "_law_spring" = some (some (.ref f_l_spring))) (l_l_spring : K.lookup f_l_spring = some ⟨oc_l_spring, od_l_spring, .func (PySem.W.fnOf "_law_spring" "_law_spring" (defArgs s_l_spring) (defBody s_l_spring) (defScope s_l_spring) .none kV_l_spring dc_l_spring pm_l_spring an_l_spring cd_l_spring ct_l_spring), sl_l_spring⟩) (y_l_spring : PySem.W.codeIn K cd_l_spring "_law_spring" = true) (k_l_spring : PySem.W.keepIn K (.ref f_l_spring) = true)
    {f_s_draw : Addr} {od_s_draw an_s_draw : Option Addr} {sl_s_draw : Array (Option Value)} {oc_s_draw kV_s_draw dc_s_draw pm_s_draw cd_s_draw ct_s_draw : Value}
    (a_s_draw : PySem.W.nsIn K mainGlobals "_law_draw" = some (some (.ref f_s_draw))) (l_s_draw : K.lookup f_s_draw = some ⟨oc_s_draw, od_s_draw, .func (PySem.W.fnOf "_law_draw" "_law_draw" (defArgs s_s_draw) (defBody s_s_draw) (defScope s_s_draw) .none kV_s_draw dc_s_draw pm_s_draw an_s_draw cd_s_draw ct_s_draw), sl_s_draw⟩) (y_s_draw : PySem.W.codeIn K cd_s_draw "_law_draw" = true) (k_s_draw : PySem.W.keepIn K (.ref f_s_draw) = true)
    {f_l_class : Addr} {od_l_class an_l_class : Option Addr} {sl_l_class : Array (Option Value)} {oc_l_class kV_l_class dc_l_class pm_l_class cd_l_class ct_l_class : Value}
    (a_l_class : PySem.W.nsIn K mainGlobals "_law_class" = some (some (.ref f_l_class))) (l_l_class : K.lookup f_l_class = some ⟨oc_l_class, od_l_class, .func (PySem.W.fnOf "_law_class" "_law_class" (defArgs s_l_class) (defBody s_l_class) (defScope s_l_class) .none kV_l_class dc_l_class pm_l_class an_l_class cd_l_class ct_l_class), sl_l_class⟩) (y_l_class : PySem.W.codeIn K cd_l_class "_law_class" = true) (k_l_class : PySem.W.keepIn K (.ref f_l_class) = true)
    {f_q_bad_text : Addr} {od_q_bad_text an_q_bad_text : Option Addr} {sl_q_bad_text : Array (Option Value)} {oc_q_bad_text kV_q_bad_text dc_q_bad_text pm_q_bad_text cd_q_bad_text ct_q_bad_text : Value}
    (a_q_bad_text : PySem.W.nsIn K mainGlobals "_law_bad_text" = some (some (.ref f_q_bad_text))) (l_q_bad_text : K.lookup f_q_bad_text = some ⟨oc_q_bad_text, od_q_bad_text, .func (PySem.W.fnOf "_law_bad_text" "_law_bad_text" (defArgs s_q_bad_text) (defBody s_q_bad_text) (defScope s_q_bad_text) .none kV_q_bad_text dc_q_bad_text pm_q_bad_text an_q_bad_text cd_q_bad_text ct_q_bad_text), sl_q_bad_text⟩) (y_q_bad_text : PySem.W.codeIn K cd_q_bad_text "_law_bad_text" = true) (k_q_bad_text : PySem.W.keepIn K (.ref f_q_bad_text) = true)
    {f_l_asked : Addr} {od_l_asked an_l_asked : Option Addr} {sl_l_asked : Array (Option Value)} {oc_l_asked kV_l_asked dc_l_asked pm_l_asked cd_l_asked ct_l_asked : Value}
    (a_l_asked : PySem.W.nsIn K mainGlobals "_law_asked" = some (some (.ref f_l_asked))) (l_l_asked : K.lookup f_l_asked = some ⟨oc_l_asked, od_l_asked, .func (PySem.W.fnOf "_law_asked" "_law_asked" (defArgs s_l_asked) (defBody s_l_asked) (defScope s_l_asked) .none kV_l_asked dc_l_asked pm_l_asked an_l_asked cd_l_asked ct_l_asked), sl_l_asked⟩) (y_l_asked : PySem.W.codeIn K cd_l_asked "_law_asked" = true) (k_l_asked : PySem.W.keepIn K (.ref f_l_asked) = true)
    {f_l_classes_right : Addr} {od_l_classes_right an_l_classes_right : Option Addr} {sl_l_classes_right : Array (Option Value)} {oc_l_classes_right kV_l_classes_right dc_l_classes_right pm_l_classes_right cd_l_classes_right ct_l_classes_right : Value}
    (a_l_classes_right : PySem.W.nsIn K mainGlobals "_law_classes_right" = some (some (.ref f_l_classes_right))) (l_l_classes_right : K.lookup f_l_classes_right = some ⟨oc_l_classes_right, od_l_classes_right, .func (PySem.W.fnOf "_law_classes_right" "_law_classes_right" (defArgs s_l_classes_right) (defBody s_l_classes_right) (defScope s_l_classes_right) .none kV_l_classes_right dc_l_classes_right pm_l_classes_right an_l_classes_right cd_l_classes_right ct_l_classes_right), sl_l_classes_right⟩) (y_l_classes_right : PySem.W.codeIn K cd_l_classes_right "_law_classes_right" = true) (k_l_classes_right : PySem.W.keepIn K (.ref f_l_classes_right) = true)
    {f_law : Addr} {od_law an_law : Option Addr} {sl_law : Array (Option Value)} {oc_law kV_law dc_law pm_law cd_law ct_law : Value}
    (a_law : PySem.W.nsIn K mainGlobals "law" = some (some (.ref f_law))) (l_law : K.lookup f_law = some ⟨oc_law, od_law, .func (PySem.W.fnOf "law" "law" (defArgs s_law) (defBody s_law) (defScope s_law) .none kV_law dc_law pm_law an_law cd_law ct_law), sl_law⟩) (y_law : PySem.W.codeIn K cd_law "law" = true) (k_law : PySem.W.keepIn K (.ref f_law) = true)
    {tg_PERCENT_CODE : Tok} (g_PERCENT_CODE : PySem.W.nsIn K mainGlobals "PERCENT_CODE" = some (some (.int 37 tg_PERCENT_CODE)))
    {tg_MAX_ESCAPES : Tok} (g_MAX_ESCAPES : PySem.W.nsIn K mainGlobals "MAX_ESCAPES" = some (some (.int 200 tg_MAX_ESCAPES)))
    {tg_BACKSLASH : Tok} (g_BACKSLASH : PySem.W.nsIn K mainGlobals "BACKSLASH" = some (some (.str "\\" tg_BACKSLASH)))
    {tg_QUOTE : Tok} (g_QUOTE : PySem.W.nsIn K mainGlobals "QUOTE" = some (some (.str "\"" tg_QUOTE)))
    (z_ValueError : PySem.W.nsIn K mainGlobals "ValueError" = some none)
    (z_abs : PySem.W.nsIn K mainGlobals "abs" = some none)
    (z_all : PySem.W.nsIn K mainGlobals "all" = some none)
    (z_bool : PySem.W.nsIn K mainGlobals "bool" = some none)
    (z_int : PySem.W.nsIn K mainGlobals "int" = some none)
    (z_isinstance : PySem.W.nsIn K mainGlobals "isinstance" = some none)
    (z_len : PySem.W.nsIn K mainGlobals "len" = some none)
    (z_list : PySem.W.nsIn K mainGlobals "list" = some none)
    (z_min : PySem.W.nsIn K mainGlobals "min" = some none)
    (z_ord : PySem.W.nsIn K mainGlobals "ord" = some none)
    (z_range : PySem.W.nsIn K mainGlobals "range" = some none)
    (z_repr : PySem.W.nsIn K mainGlobals "repr" = some none)
    (z_str : PySem.W.nsIn K mainGlobals "str" = some none)
    (z_tuple : PySem.W.nsIn K mainGlobals "tuple" = some none)
    : ∃ fd : FuncData, (∀ (s : Shared) (v : Value), BindsTo s fd ⟨[v], []⟩ [("_law_script", v)]) ∧ ∀ base : Heap, K.In base → base.Ns mainGlobals mg → (∃ o es ep, base.get? sysModules = some o ∧ o.data = .dict es ep) → FnG P w K mg base 8 fa fd ["_law_script"] (spV K 1 lawC) := by
  have e := hfa.symm.trans (PySem.W.mg_of X G a_law)
  cases e
  have B : Bi mg := ⟨PySem.W.mg_none_of X G z_ValueError, PySem.W.mg_none_of X G z_abs, PySem.W.mg_none_of X G z_all, PySem.W.mg_none_of X G z_bool, PySem.W.mg_none_of X G z_int, PySem.W.mg_none_of X G z_isinstance, PySem.W.mg_none_of X G z_len, PySem.W.mg_none_of X G z_list, PySem.W.mg_none_of X G z_min, PySem.W.mg_none_of X G z_ord, PySem.W.mg_none_of X G z_range, PySem.W.mg_none_of X G z_repr, PySem.W.mg_none_of X G z_str, PySem.W.mg_none_of X G z_tuple⟩
  have F_NotEscaped_init : FunD K "__init__" "NotEscaped.__init__" (defArgs s_NotEscaped_init) (defBody s_NotEscaped_init) (defScope s_NotEscaped_init) [] [] f_NotEscaped_init _ := ⟨⟨oc_NotEscaped_init, od_NotEscaped_init, .none, kV_NotEscaped_init, dc_NotEscaped_init, pm_NotEscaped_init, an_NotEscaped_init, cd_NotEscaped_init, ct_NotEscaped_init, sl_NotEscaped_init, rfl, l_NotEscaped_init, y_NotEscaped_init, .inl ⟨rfl, rfl⟩, .inl rfl⟩, k_NotEscaped_init⟩
  have F_TooLong_init : FunD K "__init__" "TooLong.__init__" (defArgs s_TooLong_init) (defBody s_TooLong_init) (defScope s_TooLong_init) [] [] f_TooLong_init _ := ⟨⟨oc_TooLong_init, od_TooLong_init, .none, kV_TooLong_init, dc_TooLong_init, pm_TooLong_init, an_TooLong_init, cd_TooLong_init, ct_TooLong_init, sl_TooLong_init, rfl, l_TooLong_init, y_TooLong_init, .inl ⟨rfl, rfl⟩, .inl rfl⟩, k_TooLong_init⟩
  have F_Contradiction_init : FunD K "__init__" "Contradiction.__init__" (defArgs s_Contradiction_init) (defBody s_Contradiction_init) (defScope s_Contradiction_init) [] [] f_Contradiction_init _ := ⟨⟨oc_Contradiction_init, od_Contradiction_init, .none, kV_Contradiction_init, dc_Contradiction_init, pm_Contradiction_init, an_Contradiction_init, cd_Contradiction_init, ct_Contradiction_init, sl_Contradiction_init, rfl, l_Contradiction_init, y_Contradiction_init, .inl ⟨rfl, rfl⟩, .inl rfl⟩, k_Contradiction_init⟩
  have F_ParseError_init : FunD K "__init__" "ParseError.__init__" (defArgs s_ParseError_init) (defBody s_ParseError_init) (defScope s_ParseError_init) [] [] f_ParseError_init _ := ⟨⟨oc_ParseError_init, od_ParseError_init, .none, kV_ParseError_init, dc_ParseError_init, pm_ParseError_init, an_ParseError_init, cd_ParseError_init, ct_ParseError_init, sl_ParseError_init, rfl, l_ParseError_init, y_ParseError_init, .inl ⟨rfl, rfl⟩, .inl rfl⟩, k_ParseError_init⟩
  have F_Part_init : FunD K "__init__" "Part.__init__" (defArgs s_Part_init) (defBody s_Part_init) (defScope s_Part_init) [] [] f_Part_init _ := ⟨⟨oc_Part_init, od_Part_init, .none, kV_Part_init, dc_Part_init, pm_Part_init, an_Part_init, cd_Part_init, ct_Part_init, sl_Part_init, rfl, l_Part_init, y_Part_init, .inl ⟨rfl, rfl⟩, .inl rfl⟩, k_Part_init⟩
  have F_is_integer : FunD K "is_integer" "is_integer" (defArgs s_is_integer) (defBody s_is_integer) (defScope s_is_integer) [.non] [] f_is_integer _ := ⟨⟨oc_is_integer, od_is_integer, (.ref T_is_integer), kV_is_integer, dc_is_integer, pm_is_integer, an_is_integer, cd_is_integer, ct_is_integer, sl_is_integer, rfl, l_is_integer, y_is_integer, .inr ⟨by simp, T_is_integer, _, [_], _, rfl, t_is_integer, rfl, .cons rfl (.nil)⟩, .inl rfl⟩, k_is_integer⟩
  have F_is_symbol : FunD K "is_symbol" "is_symbol" (defArgs s_is_symbol) (defBody s_is_symbol) (defScope s_is_symbol) [] [] f_is_symbol _ := ⟨⟨oc_is_symbol, od_is_symbol, .none, kV_is_symbol, dc_is_symbol, pm_is_symbol, an_is_symbol, cd_is_symbol, ct_is_symbol, sl_is_symbol, rfl, l_is_symbol, y_is_symbol, .inl ⟨rfl, rfl⟩, .inl rfl⟩, k_is_symbol⟩
  have F_is_run : FunD K "is_run" "is_run" (defArgs s_is_run) (defBody s_is_run) (defScope s_is_run) [] [] f_is_run _ := ⟨⟨oc_is_run, od_is_run, .none, kV_is_run, dc_is_run, pm_is_run, an_is_run, cd_is_run, ct_is_run, sl_is_run, rfl, l_is_run, y_is_run, .inl ⟨rfl, rfl⟩, .inl rfl⟩, k_is_run⟩
  have F_is_text : FunD K "is_text" "is_text" (defArgs s_is_text) (defBody s_is_text) (defScope s_is_text) [] [] f_is_text _ := ⟨⟨oc_is_text, od_is_text, .none, kV_is_text, dc_is_text, pm_is_text, an_is_text, cd_is_text, ct_is_text, sl_is_text, rfl, l_is_text, y_is_text, .inl ⟨rfl, rfl⟩, .inl rfl⟩, k_is_text⟩
  have F_checked_text : FunD K "checked_text" "checked_text" (defArgs s_checked_text) (defBody s_checked_text) (defScope s_checked_text) [] [] f_checked_text _ := ⟨⟨oc_checked_text, od_checked_text, .none, kV_checked_text, dc_checked_text, pm_checked_text, an_checked_text, cd_checked_text, ct_checked_text, sl_checked_text, rfl, l_checked_text, y_checked_text, .inl ⟨rfl, rfl⟩, .inl rfl⟩, k_checked_text⟩
  have F_add_run : FunD K "add_run" "add_run" (defArgs s_add_run) (defBody s_add_run) (defScope s_add_run) [] [] f_add_run _ := ⟨⟨oc_add_run, od_add_run, .none, kV_add_run, dc_add_run, pm_add_run, an_add_run, cd_add_run, ct_add_run, sl_add_run, rfl, l_add_run, y_add_run, .inl ⟨rfl, rfl⟩, .inl rfl⟩, k_add_run⟩
  have F_add_runs : FunD K "add_runs" "add_runs" (defArgs s_add_runs) (defBody s_add_runs) (defScope s_add_runs) [] [] f_add_runs _ := ⟨⟨oc_add_runs, od_add_runs, .none, kV_add_runs, dc_add_runs, pm_add_runs, an_add_runs, cd_add_runs, ct_add_runs, sl_add_runs, rfl, l_add_runs, y_add_runs, .inl ⟨rfl, rfl⟩, .inl rfl⟩, k_add_runs⟩
  have F_y_appended : FunD K "appended" "appended" (defArgs s_y_appended) (defBody s_y_appended) (defScope s_y_appended) [] [] f_y_appended _ := ⟨⟨oc_y_appended, od_y_appended, .none, kV_y_appended, dc_y_appended, pm_y_appended, an_y_appended, cd_y_appended, ct_y_appended, sl_y_appended, rfl, l_y_appended, y_y_appended, .inl ⟨rfl, rfl⟩, .inl rfl⟩, k_y_appended⟩
  have F_check_escapes : FunD K "check_escapes" "check_escapes" (defArgs s_check_escapes) (defBody s_check_escapes) (defScope s_check_escapes) [] [] f_check_escapes _ := ⟨⟨oc_check_escapes, od_check_escapes, .none, kV_check_escapes, dc_check_escapes, pm_check_escapes, an_check_escapes, cd_check_escapes, ct_check_escapes, sl_check_escapes, rfl, l_check_escapes, y_check_escapes, .inl ⟨rfl, rfl⟩, .inl rfl⟩, k_check_escapes⟩
  have F_power_of_two : FunD K "power_of_two" "power_of_two" (defArgs s_power_of_two) (defBody s_power_of_two) (defScope s_power_of_two) [] [] f_power_of_two _ := ⟨⟨oc_power_of_two, od_power_of_two, .none, kV_power_of_two, dc_power_of_two, pm_power_of_two, an_power_of_two, cd_power_of_two, ct_power_of_two, sl_power_of_two, rfl, l_power_of_two, y_power_of_two, .inl ⟨rfl, rfl⟩, .inl rfl⟩, k_power_of_two⟩
  have F_Part_is_group : FunD K "is_group" "Part.is_group" (defArgs s_Part_is_group) (defBody s_Part_is_group) (defScope s_Part_is_group) [] [] f_Part_is_group _ := ⟨⟨oc_Part_is_group, od_Part_is_group, .none, kV_Part_is_group, dc_Part_is_group, pm_Part_is_group, an_Part_is_group, cd_Part_is_group, ct_Part_is_group, sl_Part_is_group, rfl, l_Part_is_group, y_Part_is_group, .inl ⟨rfl, rfl⟩, .inl rfl⟩, k_Part_is_group⟩
  have F_parts_of : FunD K "parts_of" "parts_of" (defArgs s_parts_of) (defBody s_parts_of) (defScope s_parts_of) [] [] f_parts_of _ := ⟨⟨oc_parts_of, od_parts_of, .none, kV_parts_of, dc_parts_of, pm_parts_of, an_parts_of, cd_parts_of, ct_parts_of, sl_parts_of, rfl, l_parts_of, y_parts_of, .inl ⟨rfl, rfl⟩, .inl rfl⟩, k_parts_of⟩
  have F_add_group : FunD K "add_group" "add_group" (defArgs s_add_group) (defBody s_add_group) (defScope s_add_group) [] [] f_add_group _ := ⟨⟨oc_add_group, od_add_group, .none, kV_add_group, dc_add_group, pm_add_group, an_add_group, cd_add_group, ct_add_group, sl_add_group, rfl, l_add_group, y_add_group, .inl ⟨rfl, rfl⟩, .inl rfl⟩, k_add_group⟩
  have F_escaped : FunD K "escaped" "escaped" (defArgs s_escaped) (defBody s_escaped) (defScope s_escaped) [] [] f_escaped _ := ⟨⟨oc_escaped, od_escaped, .none, kV_escaped, dc_escaped, pm_escaped, an_escaped, cd_escaped, ct_escaped, sl_escaped, rfl, l_escaped, y_escaped, .inl ⟨rfl, rfl⟩, .inl rfl⟩, k_escaped⟩
  have F_escape : FunD K "escape" "escape" (defArgs s_escape) (defBody s_escape) (defScope s_escape) [] [] f_escape _ := ⟨⟨oc_escape, od_escape, .none, kV_escape, dc_escape, pm_escape, an_escape, cd_escape, ct_escape, sl_escape, rfl, l_escape, y_escape, .inl ⟨rfl, rfl⟩, .inl rfl⟩, k_escape⟩
  have F_add_block : FunD K "add_block" "add_block" (defArgs s_add_block) (defBody s_add_block) (defScope s_add_block) [] [] f_add_block _ := ⟨⟨oc_add_block, od_add_block, .none, kV_add_block, dc_add_block, pm_add_block, an_add_block, cd_add_block, ct_add_block, sl_add_block, rfl, l_add_block, y_add_block, .inl ⟨rfl, rfl⟩, .inl rfl⟩, k_add_block⟩
  have F_Builder_init : FunD K "__init__" "Builder.__init__" (defArgs s_Builder_init) (defBody s_Builder_init) (defScope s_Builder_init) [] [] f_Builder_init _ := ⟨⟨oc_Builder_init, od_Builder_init, .none, kV_Builder_init, dc_Builder_init, pm_Builder_init, an_Builder_init, cd_Builder_init, ct_Builder_init, sl_Builder_init, rfl, l_Builder_init, y_Builder_init, .inl ⟨rfl, rfl⟩, .inl rfl⟩, k_Builder_init⟩
  have F_Builder___len__ : FunD K "__len__" "Builder.__len__" (defArgs s_Builder___len__) (defBody s_Builder___len__) (defScope s_Builder___len__) [] [] f_Builder___len__ _ := ⟨⟨oc_Builder___len__, od_Builder___len__, .none, kV_Builder___len__, dc_Builder___len__, pm_Builder___len__, an_Builder___len__, cd_Builder___len__, ct_Builder___len__, sl_Builder___len__, rfl, l_Builder___len__, y_Builder___len__, .inl ⟨rfl, rfl⟩, .inl rfl⟩, k_Builder___len__⟩
  have F_Builder_latest : FunD K "latest" "Builder.latest" (defArgs s_Builder_latest) (defBody s_Builder_latest) (defScope s_Builder_latest) [] [] f_Builder_latest _ := ⟨⟨oc_Builder_latest, od_Builder_latest, .none, kV_Builder_latest, dc_Builder_latest, pm_Builder_latest, an_Builder_latest, cd_Builder_latest, ct_Builder_latest, sl_Builder_latest, rfl, l_Builder_latest, y_Builder_latest, .inl ⟨rfl, rfl⟩, .inl rfl⟩, k_Builder_latest⟩
  have F_Builder_add_text : FunD K "add_text" "Builder.add_text" (defArgs s_Builder_add_text) (defBody s_Builder_add_text) (defScope s_Builder_add_text) [] [] f_Builder_add_text _ := ⟨⟨oc_Builder_add_text, od_Builder_add_text, .none, kV_Builder_add_text, dc_Builder_add_text, pm_Builder_add_text, an_Builder_add_text, cd_Builder_add_text, ct_Builder_add_text, sl_Builder_add_text, rfl, l_Builder_add_text, y_Builder_add_text, .inl ⟨rfl, rfl⟩, .inl rfl⟩, k_Builder_add_text⟩
  have F_Builder_escape_all : FunD K "escape_all" "Builder.escape_all" (defArgs s_Builder_escape_all) (defBody s_Builder_escape_all) (defScope s_Builder_escape_all) [(.int 1)] [] f_Builder_escape_all _ := ⟨⟨oc_Builder_escape_all, od_Builder_escape_all, (.ref T_Builder_escape_all), kV_Builder_escape_all, dc_Builder_escape_all, pm_Builder_escape_all, an_Builder_escape_all, cd_Builder_escape_all, ct_Builder_escape_all, sl_Builder_escape_all, rfl, l_Builder_escape_all, y_Builder_escape_all, .inr ⟨by simp, T_Builder_escape_all, _, [_], _, rfl, t_Builder_escape_all, rfl, .cons ⟨_, rfl⟩ (.nil)⟩, .inl rfl⟩, k_Builder_escape_all⟩
  have F_Builder_undo : FunD K "undo" "Builder.undo" (defArgs s_Builder_undo) (defBody s_Builder_undo) (defScope s_Builder_undo) [] [] f_Builder_undo _ := ⟨⟨oc_Builder_undo, od_Builder_undo, .none, kV_Builder_undo, dc_Builder_undo, pm_Builder_undo, an_Builder_undo, cd_Builder_undo, ct_Builder_undo, sl_Builder_undo, rfl, l_Builder_undo, y_Builder_undo, .inl ⟨rfl, rfl⟩, .inl rfl⟩, k_Builder_undo⟩
  have F_Builder_current_text : FunD K "current_text" "Builder.current_text" (defArgs s_Builder_current_text) (defBody s_Builder_current_text) (defScope s_Builder_current_text) [] [] f_Builder_current_text _ := ⟨⟨oc_Builder_current_text, od_Builder_current_text, .none, kV_Builder_current_text, dc_Builder_current_text, pm_Builder_current_text, an_Builder_current_text, cd_Builder_current_text, ct_Builder_current_text, sl_Builder_current_text, rfl, l_Builder_current_text, y_Builder_current_text, .inl ⟨rfl, rfl⟩, .inl rfl⟩, k_Builder_current_text⟩
  have F_Builder_current_history : FunD K "current_history" "Builder.current_history" (defArgs s_Builder_current_history) (defBody s_Builder_current_history) (defScope s_Builder_current_history) [] [] f_Builder_current_history _ := ⟨⟨oc_Builder_current_history, od_Builder_current_history, .none, kV_Builder_current_history, dc_Builder_current_history, pm_Builder_current_history, an_Builder_current_history, cd_Builder_current_history, ct_Builder_current_history, sl_Builder_current_history, rfl, l_Builder_current_history, y_Builder_current_history, .inl ⟨rfl, rfl⟩, .inl rfl⟩, k_Builder_current_history⟩
  have F_Builder_escape_count : FunD K "escape_count" "Builder.escape_count" (defArgs s_Builder_escape_count) (defBody s_Builder_escape_count) (defScope s_Builder_escape_count) [] [] f_Builder_escape_count _ := ⟨⟨oc_Builder_escape_count, od_Builder_escape_count, .none, kV_Builder_escape_count, dc_Builder_escape_count, pm_Builder_escape_count, an_Builder_escape_count, cd_Builder_escape_count, ct_Builder_escape_count, sl_Builder_escape_count, rfl, l_Builder_escape_count, y_Builder_escape_count, .inl ⟨rfl, rfl⟩, .inl rfl⟩, k_Builder_escape_count⟩
  have F_Builder_operations : FunD K "operations" "Builder.operations" (defArgs s_Builder_operations) (defBody s_Builder_operations) (defScope s_Builder_operations) [] [] f_Builder_operations _ := ⟨⟨oc_Builder_operations, od_Builder_operations, .none, kV_Builder_operations, dc_Builder_operations, pm_Builder_operations, an_Builder_operations, cd_Builder_operations, ct_Builder_operations, sl_Builder_operations, rfl, l_Builder_operations, y_Builder_operations, .inl ⟨rfl, rfl⟩, .inl rfl⟩, k_Builder_operations⟩
  have F_Builder_state_after : FunD K "state_after" "Builder.state_after" (defArgs s_Builder_state_after) (defBody s_Builder_state_after) (defScope s_Builder_state_after) [] [] f_Builder_state_after _ := ⟨⟨oc_Builder_state_after, od_Builder_state_after, .none, kV_Builder_state_after, dc_Builder_state_after, pm_Builder_state_after, an_Builder_state_after, cd_Builder_state_after, ct_Builder_state_after, sl_Builder_state_after, rfl, l_Builder_state_after, y_Builder_state_after, .inl ⟨rfl, rfl⟩, .inl rfl⟩, k_Builder_state_after⟩
  have F_l_spring : FunD K "_law_spring" "_law_spring" (defArgs s_l_spring) (defBody s_l_spring) (defScope s_l_spring) [] [] f_l_spring _ := ⟨⟨oc_l_spring, od_l_spring, .none, kV_l_spring, dc_l_spring, pm_l_spring, an_l_spring, cd_l_spring, ct_l_spring, sl_l_spring, rfl, l_l_spring, y_l_spring, .inl ⟨rfl, rfl⟩, .inl rfl⟩, k_l_spring⟩
  have F_s_draw : FunD K "_law_draw" "_law_draw" (defArgs s_s_draw) (defBody s_s_draw) (defScope s_s_draw) [] [] f_s_draw _ := ⟨⟨oc_s_draw, od_s_draw, .none, kV_s_draw, dc_s_draw, pm_s_draw, an_s_draw, cd_s_draw, ct_s_draw, sl_s_draw, rfl, l_s_draw, y_s_draw, .inl ⟨rfl, rfl⟩, .inl rfl⟩, k_s_draw⟩
  have F_l_class : FunD K "_law_class" "_law_class" (defArgs s_l_class) (defBody s_l_class) (defScope s_l_class) [] [] f_l_class _ := ⟨⟨oc_l_class, od_l_class, .none, kV_l_class, dc_l_class, pm_l_class, an_l_class, cd_l_class, ct_l_class, sl_l_class, rfl, l_l_class, y_l_class, .inl ⟨rfl, rfl⟩, .inl rfl⟩, k_l_class⟩
  have F_q_bad_text : FunD K "_law_bad_text" "_law_bad_text" (defArgs s_q_bad_text) (defBody s_q_bad_text) (defScope s_q_bad_text) [] [] f_q_bad_text _ := ⟨⟨oc_q_bad_text, od_q_bad_text, .none, kV_q_bad_text, dc_q_bad_text, pm_q_bad_text, an_q_bad_text, cd_q_bad_text, ct_q_bad_text, sl_q_bad_text, rfl, l_q_bad_text, y_q_bad_text, .inl ⟨rfl, rfl⟩, .inl rfl⟩, k_q_bad_text⟩
  have F_l_asked : FunD K "_law_asked" "_law_asked" (defArgs s_l_asked) (defBody s_l_asked) (defScope s_l_asked) [] [] f_l_asked _ := ⟨⟨oc_l_asked, od_l_asked, .none, kV_l_asked, dc_l_asked, pm_l_asked, an_l_asked, cd_l_asked, ct_l_asked, sl_l_asked, rfl, l_l_asked, y_l_asked, .inl ⟨rfl, rfl⟩, .inl rfl⟩, k_l_asked⟩
  have F_l_classes_right : FunD K "_law_classes_right" "_law_classes_right" (defArgs s_l_classes_right) (defBody s_l_classes_right) (defScope s_l_classes_right) [] [] f_l_classes_right _ := ⟨⟨oc_l_classes_right, od_l_classes_right, .none, kV_l_classes_right, dc_l_classes_right, pm_l_classes_right, an_l_classes_right, cd_l_classes_right, ct_l_classes_right, sl_l_classes_right, rfl, l_l_classes_right, y_l_classes_right, .inl ⟨rfl, rfl⟩, .inl rfl⟩, k_l_classes_right⟩
  have F_law : FunD K "law" "law" (defArgs s_law) (defBody s_law) (defScope s_law) [] [] fa _ := ⟨⟨oc_law, od_law, .none, kV_law, dc_law, pm_law, an_law, cd_law, ct_law, sl_law, rfl, l_law, y_law, .inl ⟨rfl, rfl⟩, .inl rfl⟩, k_law⟩
  have G_PERCENT_CODE : GlC K mg "PERCENT_CODE" (.int 37) := ⟨_, (.int 37), PySem.W.mg_of X G g_PERCENT_CODE, ⟨_, rfl⟩, fun G => rp_i _⟩
  have G_MAX_ESCAPES : GlC K mg "MAX_ESCAPES" (.int 200) := ⟨_, (.int 200), PySem.W.mg_of X G g_MAX_ESCAPES, ⟨_, rfl⟩, fun G => rp_i _⟩
  have G_BACKSLASH : GlC K mg "BACKSLASH" (.str "\\") := ⟨_, (.str "\\"), PySem.W.mg_of X G g_BACKSLASH, ⟨_, rfl⟩, fun G => rp_s _⟩
  have G_QUOTE : GlC K mg "QUOTE" (.str "\"") := ⟨_, (.str "\""), PySem.W.mg_of X G g_QUOTE, ⟨_, rfl⟩, fun G => rp_s _⟩
  have cl_Builder : Cls K C_Builder := ⟨pg_Builder, hd_Builder, po_Builder, sa_Builder⟩
  have FO_Builder_steps : FldOk K "Builder" "steps" := fldOk_of aC_Builder cl_Builder n_Builder_steps
  have cl_Part : Cls K C_Part := ⟨pg_Part, hd_Part, po_Part, sa_Part⟩
  have FO_Part_start : FldOk K "Part" "start" := fldOk_of aC_Part cl_Part n_Part_start
  have FO_Part_symbol : FldOk K "Part" "symbol" := fldOk_of aC_Part cl_Part n_Part_symbol
  have FO_Part_size : FldOk K "Part" "size" := fldOk_of aC_Part cl_Part n_Part_size
  have FO_Part_quoted : FldOk K "Part" "quoted" := fldOk_of aC_Part cl_Part n_Part_quoted
  have FO_Part_many : FldOk K "Part" "many" := fldOk_of aC_Part cl_Part n_Part_many
  refine ⟨_, fun s v => F_law.bindsA (ps := ["_law_script"]) (fun _ _ _ _ _ _ us hl => match us, hl with | [_], _ => rfl) s [v] rfl, fun base kb nb hsys => ?_⟩
  have EC_SlashError : EC K "SlashError" C_SlashError := ⟨aC_SlashError, xb_SlashError, xv_SlashError, xs_SlashError, xt_SlashError, xh_SlashError, kc_SlashError, xg_SlashError, xr_SlashError, xc_SlashError, xo_SlashError⟩
  have EC_NotEscaped : EC K "NotEscaped" C_NotEscaped := ⟨aC_NotEscaped, xb_NotEscaped, xv_NotEscaped, xs_NotEscaped, xt_NotEscaped, xh_NotEscaped, kc_NotEscaped, xg_NotEscaped, xr_NotEscaped, xc_NotEscaped, xo_NotEscaped⟩
  have EC_TooLong : EC K "TooLong" C_TooLong := ⟨aC_TooLong, xb_TooLong, xv_TooLong, xs_TooLong, xt_TooLong, xh_TooLong, kc_TooLong, xg_TooLong, xr_TooLong, xc_TooLong, xo_TooLong⟩
  have EC_Contradiction : EC K "Contradiction" C_Contradiction := ⟨aC_Contradiction, xb_Contradiction, xv_Contradiction, xs_Contradiction, xt_Contradiction, xh_Contradiction, kc_Contradiction, xg_Contradiction, xr_Contradiction, xc_Contradiction, xo_Contradiction⟩
  have EC_ParseError : EC K "ParseError" C_ParseError := ⟨aC_ParseError, xb_ParseError, xv_ParseError, xs_ParseError, xt_ParseError, xh_ParseError, kc_ParseError, xg_ParseError, xr_ParseError, xc_ParseError, xo_ParseError⟩
  have EC_InvalidText : EC K "InvalidText" C_InvalidText := ⟨aC_InvalidText, xb_InvalidText, xv_InvalidText, xs_InvalidText, xt_InvalidText, xh_InvalidText, kc_InvalidText, xg_InvalidText, xr_InvalidText, xc_InvalidText, xo_InvalidText⟩
  have EC_InvalidSymbols : EC K "InvalidSymbols" C_InvalidSymbols := ⟨aC_InvalidSymbols, xb_InvalidSymbols, xv_InvalidSymbols, xs_InvalidSymbols, xt_InvalidSymbols, xh_InvalidSymbols, kc_InvalidSymbols, xg_InvalidSymbols, xr_InvalidSymbols, xc_InvalidSymbols, xo_InvalidSymbols⟩
  have EC_InvalidPosition : EC K "InvalidPosition" C_InvalidPosition := ⟨aC_InvalidPosition, xb_InvalidPosition, xv_InvalidPosition, xs_InvalidPosition, xt_InvalidPosition, xh_InvalidPosition, kc_InvalidPosition, xg_InvalidPosition, xr_InvalidPosition, xc_InvalidPosition, xo_InvalidPosition⟩
  have EC_InvalidNumber : EC K "InvalidNumber" C_InvalidNumber := ⟨aC_InvalidNumber, xb_InvalidNumber, xv_InvalidNumber, xs_InvalidNumber, xt_InvalidNumber, xh_InvalidNumber, kc_InvalidNumber, xg_InvalidNumber, xr_InvalidNumber, xc_InvalidNumber, xo_InvalidNumber⟩
  have EC_InvalidHistory : EC K "InvalidHistory" C_InvalidHistory := ⟨aC_InvalidHistory, xb_InvalidHistory, xv_InvalidHistory, xs_InvalidHistory, xt_InvalidHistory, xh_InvalidHistory, kc_InvalidHistory, xg_InvalidHistory, xr_InvalidHistory, xc_InvalidHistory, xo_InvalidHistory⟩
  have EC_InvalidScript : EC K "InvalidScript" C_InvalidScript := ⟨aC_InvalidScript, xb_InvalidScript, xv_InvalidScript, xs_InvalidScript, xt_InvalidScript, xh_InvalidScript, kc_InvalidScript, xg_InvalidScript, xr_InvalidScript, xc_InvalidScript, xo_InvalidScript⟩
  have EC_InvalidFacts : EC K "InvalidFacts" C_InvalidFacts := ⟨aC_InvalidFacts, xb_InvalidFacts, xv_InvalidFacts, xs_InvalidFacts, xt_InvalidFacts, xh_InvalidFacts, kc_InvalidFacts, xg_InvalidFacts, xr_InvalidFacts, xc_InvalidFacts, xo_InvalidFacts⟩
  have EC_NoMove : EC K "NoMove" C_NoMove := ⟨aC_NoMove, xb_NoMove, xv_NoMove, xs_NoMove, xt_NoMove, xh_NoMove, kc_NoMove, xg_NoMove, xr_NoMove, xc_NoMove, xo_NoMove⟩
  have EC_NothingToUndo : EC K "NothingToUndo" C_NothingToUndo := ⟨aC_NothingToUndo, xb_NothingToUndo, xv_NothingToUndo, xs_NothingToUndo, xt_NothingToUndo, xh_NothingToUndo, kc_NothingToUndo, xg_NothingToUndo, xr_NothingToUndo, xc_NothingToUndo, xo_NothingToUndo⟩
  have EC_InvalidCommand : EC K "InvalidCommand" C_InvalidCommand := ⟨aC_InvalidCommand, xb_InvalidCommand, xv_InvalidCommand, xs_InvalidCommand, xt_InvalidCommand, xh_InvalidCommand, kc_InvalidCommand, xg_InvalidCommand, xr_InvalidCommand, xc_InvalidCommand, xo_InvalidCommand⟩
  have EX : ECs K := ⟨x_n, x_t⟩
  have HN_SlashError : HndC K mg "SlashError" cl_SlashError := ⟨C_SlashError, PySem.W.mg_of X G aC_SlashError, catch_cons (cat_ec EC_SlashError EC_SlashError EC_SlashError.s) (catch_cons (cat_ec EC_NotEscaped EC_SlashError u_NotEscaped_SlashError) (catch_cons (cat_ec EC_TooLong EC_SlashError u_TooLong_SlashError) (catch_cons (cat_ec EC_Contradiction EC_SlashError u_Contradiction_SlashError) (catch_cons (cat_ec EC_ParseError EC_SlashError u_ParseError_SlashError) (catch_cons (cat_ec EC_InvalidText EC_SlashError u_InvalidText_SlashError) (catch_cons (cat_ec EC_InvalidSymbols EC_SlashError u_InvalidSymbols_SlashError) (catch_cons (cat_ec EC_InvalidPosition EC_SlashError u_InvalidPosition_SlashError) (catch_cons (cat_ec EC_InvalidNumber EC_SlashError u_InvalidNumber_SlashError) (catch_cons (cat_ec EC_InvalidHistory EC_SlashError u_InvalidHistory_SlashError) (catch_cons (cat_ec EC_InvalidScript EC_SlashError u_InvalidScript_SlashError) (catch_cons (cat_ec EC_InvalidFacts EC_SlashError u_InvalidFacts_SlashError) (catch_cons (cat_ec EC_NoMove EC_SlashError u_NoMove_SlashError) (catch_cons (cat_ec EC_NothingToUndo EC_SlashError u_NothingToUndo_SlashError) (catch_cons (cat_ec EC_InvalidCommand EC_SlashError u_InvalidCommand_SlashError) (catch_nil)))))))))))))))⟩
  have IS_Contradiction : IsiC K mg "Contradiction" cl_Contradiction := ⟨C_Contradiction, PySem.W.mg_of X G aC_Contradiction, kit_cons (kit_ec EX EC_SlashError EC_Contradiction u_SlashError_Contradiction) (kit_cons (kit_ec EX EC_NotEscaped EC_Contradiction u_NotEscaped_Contradiction) (kit_cons (kit_ec EX EC_TooLong EC_Contradiction u_TooLong_Contradiction) (kit_cons (kit_ec EX EC_Contradiction EC_Contradiction EC_Contradiction.s) (kit_cons (kit_ec EX EC_ParseError EC_Contradiction u_ParseError_Contradiction) (kit_cons (kit_ec EX EC_InvalidText EC_Contradiction u_InvalidText_Contradiction) (kit_cons (kit_ec EX EC_InvalidSymbols EC_Contradiction u_InvalidSymbols_Contradiction) (kit_cons (kit_ec EX EC_InvalidPosition EC_Contradiction u_InvalidPosition_Contradiction) (kit_cons (kit_ec EX EC_InvalidNumber EC_Contradiction u_InvalidNumber_Contradiction) (kit_cons (kit_ec EX EC_InvalidHistory EC_Contradiction u_InvalidHistory_Contradiction) (kit_cons (kit_ec EX EC_InvalidScript EC_Contradiction u_InvalidScript_Contradiction) (kit_cons (kit_ec EX EC_InvalidFacts EC_Contradiction u_InvalidFacts_Contradiction) (kit_cons (kit_ec EX EC_NoMove EC_Contradiction u_NoMove_Contradiction) (kit_cons (kit_ec EX EC_NothingToUndo EC_Contradiction u_NothingToUndo_Contradiction) (kit_cons (kit_ec EX EC_InvalidCommand EC_Contradiction u_InvalidCommand_Contradiction) (kit_nil)))))))))))))))⟩
  have IS_InvalidCommand : IsiC K mg "InvalidCommand" cl_InvalidCommand := ⟨C_InvalidCommand, PySem.W.mg_of X G aC_InvalidCommand, kit_cons (kit_ec EX EC_SlashError EC_InvalidCommand u_SlashError_InvalidCommand) (kit_cons (kit_ec EX EC_NotEscaped EC_InvalidCommand u_NotEscaped_InvalidCommand) (kit_cons (kit_ec EX EC_TooLong EC_InvalidCommand u_TooLong_InvalidCommand) (kit_cons (kit_ec EX EC_Contradiction EC_InvalidCommand u_Contradiction_InvalidCommand) (kit_cons (kit_ec EX EC_ParseError EC_InvalidCommand u_ParseError_InvalidCommand) (kit_cons (kit_ec EX EC_InvalidText EC_InvalidCommand u_InvalidText_InvalidCommand) (kit_cons (kit_ec EX EC_InvalidSymbols EC_InvalidCommand u_InvalidSymbols_InvalidCommand) (kit_cons (kit_ec EX EC_InvalidPosition EC_InvalidCommand u_InvalidPosition_InvalidCommand) (kit_cons (kit_ec EX EC_InvalidNumber EC_InvalidCommand u_InvalidNumber_InvalidCommand) (kit_cons (kit_ec EX EC_InvalidHistory EC_InvalidCommand u_InvalidHistory_InvalidCommand) (kit_cons (kit_ec EX EC_InvalidScript EC_InvalidCommand u_InvalidScript_InvalidCommand) (kit_cons (kit_ec EX EC_InvalidFacts EC_InvalidCommand u_InvalidFacts_InvalidCommand) (kit_cons (kit_ec EX EC_NoMove EC_InvalidCommand u_NoMove_InvalidCommand) (kit_cons (kit_ec EX EC_NothingToUndo EC_InvalidCommand u_NothingToUndo_InvalidCommand) (kit_cons (kit_ec EX EC_InvalidCommand EC_InvalidCommand EC_InvalidCommand.s) (kit_nil)))))))))))))))⟩
  have IS_InvalidFacts : IsiC K mg "InvalidFacts" cl_InvalidFacts := ⟨C_InvalidFacts, PySem.W.mg_of X G aC_InvalidFacts, kit_cons (kit_ec EX EC_SlashError EC_InvalidFacts u_SlashError_InvalidFacts) (kit_cons (kit_ec EX EC_NotEscaped EC_InvalidFacts u_NotEscaped_InvalidFacts) (kit_cons (kit_ec EX EC_TooLong EC_InvalidFacts u_TooLong_InvalidFacts) (kit_cons (kit_ec EX EC_Contradiction EC_InvalidFacts u_Contradiction_InvalidFacts) (kit_cons (kit_ec EX EC_ParseError EC_InvalidFacts u_ParseError_InvalidFacts) (kit_cons (kit_ec EX EC_InvalidText EC_InvalidFacts u_InvalidText_InvalidFacts) (kit_cons (kit_ec EX EC_InvalidSymbols EC_InvalidFacts u_InvalidSymbols_InvalidFacts) (kit_cons (kit_ec EX EC_InvalidPosition EC_InvalidFacts u_InvalidPosition_InvalidFacts) (kit_cons (kit_ec EX EC_InvalidNumber EC_InvalidFacts u_InvalidNumber_InvalidFacts) (kit_cons (kit_ec EX EC_InvalidHistory EC_InvalidFacts u_InvalidHistory_InvalidFacts) (kit_cons (kit_ec EX EC_InvalidScript EC_InvalidFacts u_InvalidScript_InvalidFacts) (kit_cons (kit_ec EX EC_InvalidFacts EC_InvalidFacts EC_InvalidFacts.s) (kit_cons (kit_ec EX EC_NoMove EC_InvalidFacts u_NoMove_InvalidFacts) (kit_cons (kit_ec EX EC_NothingToUndo EC_InvalidFacts u_NothingToUndo_InvalidFacts) (kit_cons (kit_ec EX EC_InvalidCommand EC_InvalidFacts u_InvalidCommand_InvalidFacts) (kit_nil)))))))))))))))⟩
  have IS_InvalidHistory : IsiC K mg "InvalidHistory" cl_InvalidHistory := ⟨C_InvalidHistory, PySem.W.mg_of X G aC_InvalidHistory, kit_cons (kit_ec EX EC_SlashError EC_InvalidHistory u_SlashError_InvalidHistory) (kit_cons (kit_ec EX EC_NotEscaped EC_InvalidHistory u_NotEscaped_InvalidHistory) (kit_cons (kit_ec EX EC_TooLong EC_InvalidHistory u_TooLong_InvalidHistory) (kit_cons (kit_ec EX EC_Contradiction EC_InvalidHistory u_Contradiction_InvalidHistory) (kit_cons (kit_ec EX EC_ParseError EC_InvalidHistory u_ParseError_InvalidHistory) (kit_cons (kit_ec EX EC_InvalidText EC_InvalidHistory u_InvalidText_InvalidHistory) (kit_cons (kit_ec EX EC_InvalidSymbols EC_InvalidHistory u_InvalidSymbols_InvalidHistory) (kit_cons (kit_ec EX EC_InvalidPosition EC_InvalidHistory u_InvalidPosition_InvalidHistory) (kit_cons (kit_ec EX EC_InvalidNumber EC_InvalidHistory u_InvalidNumber_InvalidHistory) (kit_cons (kit_ec EX EC_InvalidHistory EC_InvalidHistory EC_InvalidHistory.s) (kit_cons (kit_ec EX EC_InvalidScript EC_InvalidHistory u_InvalidScript_InvalidHistory) (kit_cons (kit_ec EX EC_InvalidFacts EC_InvalidHistory u_InvalidFacts_InvalidHistory) (kit_cons (kit_ec EX EC_NoMove EC_InvalidHistory u_NoMove_InvalidHistory) (kit_cons (kit_ec EX EC_NothingToUndo EC_InvalidHistory u_NothingToUndo_InvalidHistory) (kit_cons (kit_ec EX EC_InvalidCommand EC_InvalidHistory u_InvalidCommand_InvalidHistory) (kit_nil)))))))))))))))⟩
  have IS_InvalidNumber : IsiC K mg "InvalidNumber" cl_InvalidNumber := ⟨C_InvalidNumber, PySem.W.mg_of X G aC_InvalidNumber, kit_cons (kit_ec EX EC_SlashError EC_InvalidNumber u_SlashError_InvalidNumber) (kit_cons (kit_ec EX EC_NotEscaped EC_InvalidNumber u_NotEscaped_InvalidNumber) (kit_cons (kit_ec EX EC_TooLong EC_InvalidNumber u_TooLong_InvalidNumber) (kit_cons (kit_ec EX EC_Contradiction EC_InvalidNumber u_Contradiction_InvalidNumber) (kit_cons (kit_ec EX EC_ParseError EC_InvalidNumber u_ParseError_InvalidNumber) (kit_cons (kit_ec EX EC_InvalidText EC_InvalidNumber u_InvalidText_InvalidNumber) (kit_cons (kit_ec EX EC_InvalidSymbols EC_InvalidNumber u_InvalidSymbols_InvalidNumber) (kit_cons (kit_ec EX EC_InvalidPosition EC_InvalidNumber u_InvalidPosition_InvalidNumber) (kit_cons (kit_ec EX EC_InvalidNumber EC_InvalidNumber EC_InvalidNumber.s) (kit_cons (kit_ec EX EC_InvalidHistory EC_InvalidNumber u_InvalidHistory_InvalidNumber) (kit_cons (kit_ec EX EC_InvalidScript EC_InvalidNumber u_InvalidScript_InvalidNumber) (kit_cons (kit_ec EX EC_InvalidFacts EC_InvalidNumber u_InvalidFacts_InvalidNumber) (kit_cons (kit_ec EX EC_NoMove EC_InvalidNumber u_NoMove_InvalidNumber) (kit_cons (kit_ec EX EC_NothingToUndo EC_InvalidNumber u_NothingToUndo_InvalidNumber) (kit_cons (kit_ec EX EC_InvalidCommand EC_InvalidNumber u_InvalidCommand_InvalidNumber) (kit_nil)))))))))))))))⟩
  have IS_InvalidPosition : IsiC K mg "InvalidPosition" cl_InvalidPosition := ⟨C_InvalidPosition, PySem.W.mg_of X G aC_InvalidPosition, kit_cons (kit_ec EX EC_SlashError EC_InvalidPosition u_SlashError_InvalidPosition) (kit_cons (kit_ec EX EC_NotEscaped EC_InvalidPosition u_NotEscaped_InvalidPosition) (kit_cons (kit_ec EX EC_TooLong EC_InvalidPosition u_TooLong_InvalidPosition) (kit_cons (kit_ec EX EC_Contradiction EC_InvalidPosition u_Contradiction_InvalidPosition) (kit_cons (kit_ec EX EC_ParseError EC_InvalidPosition u_ParseError_InvalidPosition) (kit_cons (kit_ec EX EC_InvalidText EC_InvalidPosition u_InvalidText_InvalidPosition) (kit_cons (kit_ec EX EC_InvalidSymbols EC_InvalidPosition u_InvalidSymbols_InvalidPosition) (kit_cons (kit_ec EX EC_InvalidPosition EC_InvalidPosition EC_InvalidPosition.s) (kit_cons (kit_ec EX EC_InvalidNumber EC_InvalidPosition u_InvalidNumber_InvalidPosition) (kit_cons (kit_ec EX EC_InvalidHistory EC_InvalidPosition u_InvalidHistory_InvalidPosition) (kit_cons (kit_ec EX EC_InvalidScript EC_InvalidPosition u_InvalidScript_InvalidPosition) (kit_cons (kit_ec EX EC_InvalidFacts EC_InvalidPosition u_InvalidFacts_InvalidPosition) (kit_cons (kit_ec EX EC_NoMove EC_InvalidPosition u_NoMove_InvalidPosition) (kit_cons (kit_ec EX EC_NothingToUndo EC_InvalidPosition u_NothingToUndo_InvalidPosition) (kit_cons (kit_ec EX EC_InvalidCommand EC_InvalidPosition u_InvalidCommand_InvalidPosition) (kit_nil)))))))))))))))⟩
  have IS_InvalidScript : IsiC K mg "InvalidScript" cl_InvalidScript := ⟨C_InvalidScript, PySem.W.mg_of X G aC_InvalidScript, kit_cons (kit_ec EX EC_SlashError EC_InvalidScript u_SlashError_InvalidScript) (kit_cons (kit_ec EX EC_NotEscaped EC_InvalidScript u_NotEscaped_InvalidScript) (kit_cons (kit_ec EX EC_TooLong EC_InvalidScript u_TooLong_InvalidScript) (kit_cons (kit_ec EX EC_Contradiction EC_InvalidScript u_Contradiction_InvalidScript) (kit_cons (kit_ec EX EC_ParseError EC_InvalidScript u_ParseError_InvalidScript) (kit_cons (kit_ec EX EC_InvalidText EC_InvalidScript u_InvalidText_InvalidScript) (kit_cons (kit_ec EX EC_InvalidSymbols EC_InvalidScript u_InvalidSymbols_InvalidScript) (kit_cons (kit_ec EX EC_InvalidPosition EC_InvalidScript u_InvalidPosition_InvalidScript) (kit_cons (kit_ec EX EC_InvalidNumber EC_InvalidScript u_InvalidNumber_InvalidScript) (kit_cons (kit_ec EX EC_InvalidHistory EC_InvalidScript u_InvalidHistory_InvalidScript) (kit_cons (kit_ec EX EC_InvalidScript EC_InvalidScript EC_InvalidScript.s) (kit_cons (kit_ec EX EC_InvalidFacts EC_InvalidScript u_InvalidFacts_InvalidScript) (kit_cons (kit_ec EX EC_NoMove EC_InvalidScript u_NoMove_InvalidScript) (kit_cons (kit_ec EX EC_NothingToUndo EC_InvalidScript u_NothingToUndo_InvalidScript) (kit_cons (kit_ec EX EC_InvalidCommand EC_InvalidScript u_InvalidCommand_InvalidScript) (kit_nil)))))))))))))))⟩
  have IS_InvalidSymbols : IsiC K mg "InvalidSymbols" cl_InvalidSymbols := ⟨C_InvalidSymbols, PySem.W.mg_of X G aC_InvalidSymbols, kit_cons (kit_ec EX EC_SlashError EC_InvalidSymbols u_SlashError_InvalidSymbols) (kit_cons (kit_ec EX EC_NotEscaped EC_InvalidSymbols u_NotEscaped_InvalidSymbols) (kit_cons (kit_ec EX EC_TooLong EC_InvalidSymbols u_TooLong_InvalidSymbols) (kit_cons (kit_ec EX EC_Contradiction EC_InvalidSymbols u_Contradiction_InvalidSymbols) (kit_cons (kit_ec EX EC_ParseError EC_InvalidSymbols u_ParseError_InvalidSymbols) (kit_cons (kit_ec EX EC_InvalidText EC_InvalidSymbols u_InvalidText_InvalidSymbols) (kit_cons (kit_ec EX EC_InvalidSymbols EC_InvalidSymbols EC_InvalidSymbols.s) (kit_cons (kit_ec EX EC_InvalidPosition EC_InvalidSymbols u_InvalidPosition_InvalidSymbols) (kit_cons (kit_ec EX EC_InvalidNumber EC_InvalidSymbols u_InvalidNumber_InvalidSymbols) (kit_cons (kit_ec EX EC_InvalidHistory EC_InvalidSymbols u_InvalidHistory_InvalidSymbols) (kit_cons (kit_ec EX EC_InvalidScript EC_InvalidSymbols u_InvalidScript_InvalidSymbols) (kit_cons (kit_ec EX EC_InvalidFacts EC_InvalidSymbols u_InvalidFacts_InvalidSymbols) (kit_cons (kit_ec EX EC_NoMove EC_InvalidSymbols u_NoMove_InvalidSymbols) (kit_cons (kit_ec EX EC_NothingToUndo EC_InvalidSymbols u_NothingToUndo_InvalidSymbols) (kit_cons (kit_ec EX EC_InvalidCommand EC_InvalidSymbols u_InvalidCommand_InvalidSymbols) (kit_nil)))))))))))))))⟩
  have IS_InvalidText : IsiC K mg "InvalidText" cl_InvalidText := ⟨C_InvalidText, PySem.W.mg_of X G aC_InvalidText, kit_cons (kit_ec EX EC_SlashError EC_InvalidText u_SlashError_InvalidText) (kit_cons (kit_ec EX EC_NotEscaped EC_InvalidText u_NotEscaped_InvalidText) (kit_cons (kit_ec EX EC_TooLong EC_InvalidText u_TooLong_InvalidText) (kit_cons (kit_ec EX EC_Contradiction EC_InvalidText u_Contradiction_InvalidText) (kit_cons (kit_ec EX EC_ParseError EC_InvalidText u_ParseError_InvalidText) (kit_cons (kit_ec EX EC_InvalidText EC_InvalidText EC_InvalidText.s) (kit_cons (kit_ec EX EC_InvalidSymbols EC_InvalidText u_InvalidSymbols_InvalidText) (kit_cons (kit_ec EX EC_InvalidPosition EC_InvalidText u_InvalidPosition_InvalidText) (kit_cons (kit_ec EX EC_InvalidNumber EC_InvalidText u_InvalidNumber_InvalidText) (kit_cons (kit_ec EX EC_InvalidHistory EC_InvalidText u_InvalidHistory_InvalidText) (kit_cons (kit_ec EX EC_InvalidScript EC_InvalidText u_InvalidScript_InvalidText) (kit_cons (kit_ec EX EC_InvalidFacts EC_InvalidText u_InvalidFacts_InvalidText) (kit_cons (kit_ec EX EC_NoMove EC_InvalidText u_NoMove_InvalidText) (kit_cons (kit_ec EX EC_NothingToUndo EC_InvalidText u_NothingToUndo_InvalidText) (kit_cons (kit_ec EX EC_InvalidCommand EC_InvalidText u_InvalidCommand_InvalidText) (kit_nil)))))))))))))))⟩
  have IS_NoMove : IsiC K mg "NoMove" cl_NoMove := ⟨C_NoMove, PySem.W.mg_of X G aC_NoMove, kit_cons (kit_ec EX EC_SlashError EC_NoMove u_SlashError_NoMove) (kit_cons (kit_ec EX EC_NotEscaped EC_NoMove u_NotEscaped_NoMove) (kit_cons (kit_ec EX EC_TooLong EC_NoMove u_TooLong_NoMove) (kit_cons (kit_ec EX EC_Contradiction EC_NoMove u_Contradiction_NoMove) (kit_cons (kit_ec EX EC_ParseError EC_NoMove u_ParseError_NoMove) (kit_cons (kit_ec EX EC_InvalidText EC_NoMove u_InvalidText_NoMove) (kit_cons (kit_ec EX EC_InvalidSymbols EC_NoMove u_InvalidSymbols_NoMove) (kit_cons (kit_ec EX EC_InvalidPosition EC_NoMove u_InvalidPosition_NoMove) (kit_cons (kit_ec EX EC_InvalidNumber EC_NoMove u_InvalidNumber_NoMove) (kit_cons (kit_ec EX EC_InvalidHistory EC_NoMove u_InvalidHistory_NoMove) (kit_cons (kit_ec EX EC_InvalidScript EC_NoMove u_InvalidScript_NoMove) (kit_cons (kit_ec EX EC_InvalidFacts EC_NoMove u_InvalidFacts_NoMove) (kit_cons (kit_ec EX EC_NoMove EC_NoMove EC_NoMove.s) (kit_cons (kit_ec EX EC_NothingToUndo EC_NoMove u_NothingToUndo_NoMove) (kit_cons (kit_ec EX EC_InvalidCommand EC_NoMove u_InvalidCommand_NoMove) (kit_nil)))))))))))))))⟩
  have IS_NotEscaped : IsiC K mg "NotEscaped" cl_NotEscaped := ⟨C_NotEscaped, PySem.W.mg_of X G aC_NotEscaped, kit_cons (kit_ec EX EC_SlashError EC_NotEscaped u_SlashError_NotEscaped) (kit_cons (kit_ec EX EC_NotEscaped EC_NotEscaped EC_NotEscaped.s) (kit_cons (kit_ec EX EC_TooLong EC_NotEscaped u_TooLong_NotEscaped) (kit_cons (kit_ec EX EC_Contradiction EC_NotEscaped u_Contradiction_NotEscaped) (kit_cons (kit_ec EX EC_ParseError EC_NotEscaped u_ParseError_NotEscaped) (kit_cons (kit_ec EX EC_InvalidText EC_NotEscaped u_InvalidText_NotEscaped) (kit_cons (kit_ec EX EC_InvalidSymbols EC_NotEscaped u_InvalidSymbols_NotEscaped) (kit_cons (kit_ec EX EC_InvalidPosition EC_NotEscaped u_InvalidPosition_NotEscaped) (kit_cons (kit_ec EX EC_InvalidNumber EC_NotEscaped u_InvalidNumber_NotEscaped) (kit_cons (kit_ec EX EC_InvalidHistory EC_NotEscaped u_InvalidHistory_NotEscaped) (kit_cons (kit_ec EX EC_InvalidScript EC_NotEscaped u_InvalidScript_NotEscaped) (kit_cons (kit_ec EX EC_InvalidFacts EC_NotEscaped u_InvalidFacts_NotEscaped) (kit_cons (kit_ec EX EC_NoMove EC_NotEscaped u_NoMove_NotEscaped) (kit_cons (kit_ec EX EC_NothingToUndo EC_NotEscaped u_NothingToUndo_NotEscaped) (kit_cons (kit_ec EX EC_InvalidCommand EC_NotEscaped u_InvalidCommand_NotEscaped) (kit_nil)))))))))))))))⟩
  have IS_NothingToUndo : IsiC K mg "NothingToUndo" cl_NothingToUndo := ⟨C_NothingToUndo, PySem.W.mg_of X G aC_NothingToUndo, kit_cons (kit_ec EX EC_SlashError EC_NothingToUndo u_SlashError_NothingToUndo) (kit_cons (kit_ec EX EC_NotEscaped EC_NothingToUndo u_NotEscaped_NothingToUndo) (kit_cons (kit_ec EX EC_TooLong EC_NothingToUndo u_TooLong_NothingToUndo) (kit_cons (kit_ec EX EC_Contradiction EC_NothingToUndo u_Contradiction_NothingToUndo) (kit_cons (kit_ec EX EC_ParseError EC_NothingToUndo u_ParseError_NothingToUndo) (kit_cons (kit_ec EX EC_InvalidText EC_NothingToUndo u_InvalidText_NothingToUndo) (kit_cons (kit_ec EX EC_InvalidSymbols EC_NothingToUndo u_InvalidSymbols_NothingToUndo) (kit_cons (kit_ec EX EC_InvalidPosition EC_NothingToUndo u_InvalidPosition_NothingToUndo) (kit_cons (kit_ec EX EC_InvalidNumber EC_NothingToUndo u_InvalidNumber_NothingToUndo) (kit_cons (kit_ec EX EC_InvalidHistory EC_NothingToUndo u_InvalidHistory_NothingToUndo) (kit_cons (kit_ec EX EC_InvalidScript EC_NothingToUndo u_InvalidScript_NothingToUndo) (kit_cons (kit_ec EX EC_InvalidFacts EC_NothingToUndo u_InvalidFacts_NothingToUndo) (kit_cons (kit_ec EX EC_NoMove EC_NothingToUndo u_NoMove_NothingToUndo) (kit_cons (kit_ec EX EC_NothingToUndo EC_NothingToUndo EC_NothingToUndo.s) (kit_cons (kit_ec EX EC_InvalidCommand EC_NothingToUndo u_InvalidCommand_NothingToUndo) (kit_nil)))))))))))))))⟩
  have IS_ParseError : IsiC K mg "ParseError" cl_ParseError := ⟨C_ParseError, PySem.W.mg_of X G aC_ParseError, kit_cons (kit_ec EX EC_SlashError EC_ParseError u_SlashError_ParseError) (kit_cons (kit_ec EX EC_NotEscaped EC_ParseError u_NotEscaped_ParseError) (kit_cons (kit_ec EX EC_TooLong EC_ParseError u_TooLong_ParseError) (kit_cons (kit_ec EX EC_Contradiction EC_ParseError u_Contradiction_ParseError) (kit_cons (kit_ec EX EC_ParseError EC_ParseError EC_ParseError.s) (kit_cons (kit_ec EX EC_InvalidText EC_ParseError u_InvalidText_ParseError) (kit_cons (kit_ec EX EC_InvalidSymbols EC_ParseError u_InvalidSymbols_ParseError) (kit_cons (kit_ec EX EC_InvalidPosition EC_ParseError u_InvalidPosition_ParseError) (kit_cons (kit_ec EX EC_InvalidNumber EC_ParseError u_InvalidNumber_ParseError) (kit_cons (kit_ec EX EC_InvalidHistory EC_ParseError u_InvalidHistory_ParseError) (kit_cons (kit_ec EX EC_InvalidScript EC_ParseError u_InvalidScript_ParseError) (kit_cons (kit_ec EX EC_InvalidFacts EC_ParseError u_InvalidFacts_ParseError) (kit_cons (kit_ec EX EC_NoMove EC_ParseError u_NoMove_ParseError) (kit_cons (kit_ec EX EC_NothingToUndo EC_ParseError u_NothingToUndo_ParseError) (kit_cons (kit_ec EX EC_InvalidCommand EC_ParseError u_InvalidCommand_ParseError) (kit_nil)))))))))))))))⟩
  have IS_SlashError : IsiC K mg "SlashError" cl_SlashError := ⟨C_SlashError, PySem.W.mg_of X G aC_SlashError, kit_cons (kit_ec EX EC_SlashError EC_SlashError EC_SlashError.s) (kit_cons (kit_ec EX EC_NotEscaped EC_SlashError u_NotEscaped_SlashError) (kit_cons (kit_ec EX EC_TooLong EC_SlashError u_TooLong_SlashError) (kit_cons (kit_ec EX EC_Contradiction EC_SlashError u_Contradiction_SlashError) (kit_cons (kit_ec EX EC_ParseError EC_SlashError u_ParseError_SlashError) (kit_cons (kit_ec EX EC_InvalidText EC_SlashError u_InvalidText_SlashError) (kit_cons (kit_ec EX EC_InvalidSymbols EC_SlashError u_InvalidSymbols_SlashError) (kit_cons (kit_ec EX EC_InvalidPosition EC_SlashError u_InvalidPosition_SlashError) (kit_cons (kit_ec EX EC_InvalidNumber EC_SlashError u_InvalidNumber_SlashError) (kit_cons (kit_ec EX EC_InvalidHistory EC_SlashError u_InvalidHistory_SlashError) (kit_cons (kit_ec EX EC_InvalidScript EC_SlashError u_InvalidScript_SlashError) (kit_cons (kit_ec EX EC_InvalidFacts EC_SlashError u_InvalidFacts_SlashError) (kit_cons (kit_ec EX EC_NoMove EC_SlashError u_NoMove_SlashError) (kit_cons (kit_ec EX EC_NothingToUndo EC_SlashError u_NothingToUndo_SlashError) (kit_cons (kit_ec EX EC_InvalidCommand EC_SlashError u_InvalidCommand_SlashError) (kit_nil)))))))))))))))⟩
  have IS_TooLong : IsiC K mg "TooLong" cl_TooLong := ⟨C_TooLong, PySem.W.mg_of X G aC_TooLong, kit_cons (kit_ec EX EC_SlashError EC_TooLong u_SlashError_TooLong) (kit_cons (kit_ec EX EC_NotEscaped EC_TooLong u_NotEscaped_TooLong) (kit_cons (kit_ec EX EC_TooLong EC_TooLong EC_TooLong.s) (kit_cons (kit_ec EX EC_Contradiction EC_TooLong u_Contradiction_TooLong) (kit_cons (kit_ec EX EC_ParseError EC_TooLong u_ParseError_TooLong) (kit_cons (kit_ec EX EC_InvalidText EC_TooLong u_InvalidText_TooLong) (kit_cons (kit_ec EX EC_InvalidSymbols EC_TooLong u_InvalidSymbols_TooLong) (kit_cons (kit_ec EX EC_InvalidPosition EC_TooLong u_InvalidPosition_TooLong) (kit_cons (kit_ec EX EC_InvalidNumber EC_TooLong u_InvalidNumber_TooLong) (kit_cons (kit_ec EX EC_InvalidHistory EC_TooLong u_InvalidHistory_TooLong) (kit_cons (kit_ec EX EC_InvalidScript EC_TooLong u_InvalidScript_TooLong) (kit_cons (kit_ec EX EC_InvalidFacts EC_TooLong u_InvalidFacts_TooLong) (kit_cons (kit_ec EX EC_NoMove EC_TooLong u_NoMove_TooLong) (kit_cons (kit_ec EX EC_NothingToUndo EC_TooLong u_NothingToUndo_TooLong) (kit_cons (kit_ec EX EC_InvalidCommand EC_TooLong u_InvalidCommand_TooLong) (kit_nil)))))))))))))))⟩
  have KV : KitE K (.type "ValueError") cl_ValueError := kit_cons (kit_ve EX EC_SlashError) (kit_cons (kit_ve EX EC_NotEscaped) (kit_cons (kit_ve EX EC_TooLong) (kit_cons (kit_ve EX EC_Contradiction) (kit_cons (kit_ve EX EC_ParseError) (kit_cons (kit_ve EX EC_InvalidText) (kit_cons (kit_ve EX EC_InvalidSymbols) (kit_cons (kit_ve EX EC_InvalidPosition) (kit_cons (kit_ve EX EC_InvalidNumber) (kit_cons (kit_ve EX EC_InvalidHistory) (kit_cons (kit_ve EX EC_InvalidScript) (kit_cons (kit_ve EX EC_InvalidFacts) (kit_cons (kit_ve EX EC_NoMove) (kit_cons (kit_ve EX EC_NothingToUndo) (kit_cons (kit_ve EX EC_InvalidCommand) (kit_nil)))))))))))))))
  have RA_InvalidCommand : RaiC K mg "InvalidCommand" := rai_ec EC_InvalidCommand (PySem.W.mg_of X G aC_InvalidCommand) xe_InvalidCommand
  have RA_InvalidFacts : RaiC K mg "InvalidFacts" := rai_ec EC_InvalidFacts (PySem.W.mg_of X G aC_InvalidFacts) xe_InvalidFacts
  have RA_InvalidHistory : RaiC K mg "InvalidHistory" := rai_ec EC_InvalidHistory (PySem.W.mg_of X G aC_InvalidHistory) xe_InvalidHistory
  have RA_InvalidNumber : RaiC K mg "InvalidNumber" := rai_ec EC_InvalidNumber (PySem.W.mg_of X G aC_InvalidNumber) xe_InvalidNumber
  have RA_InvalidPosition : RaiC K mg "InvalidPosition" := rai_ec EC_InvalidPosition (PySem.W.mg_of X G aC_InvalidPosition) xe_InvalidPosition
  have RA_InvalidScript : RaiC K mg "InvalidScript" := rai_ec EC_InvalidScript (PySem.W.mg_of X G aC_InvalidScript) xe_InvalidScript
  have RA_InvalidSymbols : RaiC K mg "InvalidSymbols" := rai_ec EC_InvalidSymbols (PySem.W.mg_of X G aC_InvalidSymbols) xe_InvalidSymbols
  have RA_InvalidText : RaiC K mg "InvalidText" := rai_ec EC_InvalidText (PySem.W.mg_of X G aC_InvalidText) xe_InvalidText
  have RA_NoMove : RaiC K mg "NoMove" := rai_ec EC_NoMove (PySem.W.mg_of X G aC_NoMove) xe_NoMove
  have RA_NothingToUndo : RaiC K mg "NothingToUndo" := rai_ec EC_NothingToUndo (PySem.W.mg_of X G aC_NothingToUndo) xe_NothingToUndo
  have XF_Contradiction_indices : XfOk K "Contradiction" "indices" := xf_ec EC_Contradiction n_Contradiction_indices
  have XF_NotEscaped_position : XfOk K "NotEscaped" "position" := xf_ec EC_NotEscaped n_NotEscaped_position
  have XF_ParseError_index : XfOk K "ParseError" "index" := xf_ec EC_ParseError n_ParseError_index
  have XF_TooLong_length : XfOk K "TooLong" "length" := xf_ec EC_TooLong n_TooLong_length
  have OX_Contradiction : OexC K C_Contradiction := ⟨⟨_, _, _, _, _, _, _, _, _, _, _, _, _, _, _, xL_Contradiction, show PySem.HandSPX.refsVE [.type "ValueError", .type "Exception", .type "BaseException", .type "object"] = true by decide +kernel⟩, sa_Contradiction, EC_Contradiction.b, EC_Contradiction.t, EC_Contradiction.k⟩
  have RF_Contradiction : RaiF P w K mg base 1 "Contradiction" "indices" := ⟨C_Contradiction, f_Contradiction_init, _, ["self", "indices"], aC_Contradiction, PySem.W.mg_of X G aC_Contradiction, OX_Contradiction, a_Contradiction_init, ty_Contradiction_init, wi_Contradiction_init (P := P) (w := w) (mg := mg) (base := base) F_Contradiction_init OX_Contradiction n_Contradiction_indices ⟨C_SlashError, PySem.W.mg_of X G aC_SlashError, xx_SlashError, xy_SlashError, xz_SlashError⟩, F_Contradiction_init.bindsN (fun _ _ _ _ _ _ us hl => match us, hl with | [_, _], _ => rfl)⟩
  have OX_NotEscaped : OexC K C_NotEscaped := ⟨⟨_, _, _, _, _, _, _, _, _, _, _, _, _, _, _, xL_NotEscaped, show PySem.HandSPX.refsVE [.type "ValueError", .type "Exception", .type "BaseException", .type "object"] = true by decide +kernel⟩, sa_NotEscaped, EC_NotEscaped.b, EC_NotEscaped.t, EC_NotEscaped.k⟩
  have RF_NotEscaped : RaiF P w K mg base 1 "NotEscaped" "position" := ⟨C_NotEscaped, f_NotEscaped_init, _, ["self", "position"], aC_NotEscaped, PySem.W.mg_of X G aC_NotEscaped, OX_NotEscaped, a_NotEscaped_init, ty_NotEscaped_init, wi_NotEscaped_init (P := P) (w := w) (mg := mg) (base := base) F_NotEscaped_init OX_NotEscaped n_NotEscaped_position ⟨C_SlashError, PySem.W.mg_of X G aC_SlashError, xx_SlashError, xy_SlashError, xz_SlashError⟩, F_NotEscaped_init.bindsN (fun _ _ _ _ _ _ us hl => match us, hl with | [_, _], _ => rfl)⟩
  have OX_ParseError : OexC K C_ParseError := ⟨⟨_, _, _, _, _, _, _, _, _, _, _, _, _, _, _, xL_ParseError, show PySem.HandSPX.refsVE [.type "ValueError", .type "Exception", .type "BaseException", .type "object"] = true by decide +kernel⟩, sa_ParseError, EC_ParseError.b, EC_ParseError.t, EC_ParseError.k⟩
  have RF_ParseError : RaiF P w K mg base 1 "ParseError" "index" := ⟨C_ParseError, f_ParseError_init, _, ["self", "index"], aC_ParseError, PySem.W.mg_of X G aC_ParseError, OX_ParseError, a_ParseError_init, ty_ParseError_init, wi_ParseError_init (P := P) (w := w) (mg := mg) (base := base) F_ParseError_init OX_ParseError n_ParseError_index ⟨C_SlashError, PySem.W.mg_of X G aC_SlashError, xx_SlashError, xy_SlashError, xz_SlashError⟩, F_ParseError_init.bindsN (fun _ _ _ _ _ _ us hl => match us, hl with | [_, _], _ => rfl)⟩
  have OX_TooLong : OexC K C_TooLong := ⟨⟨_, _, _, _, _, _, _, _, _, _, _, _, _, _, _, xL_TooLong, show PySem.HandSPX.refsVE [.type "ValueError", .type "Exception", .type "BaseException", .type "object"] = true by decide +kernel⟩, sa_TooLong, EC_TooLong.b, EC_TooLong.t, EC_TooLong.k⟩
  have RF_TooLong : RaiF P w K mg base 1 "TooLong" "length" := ⟨C_TooLong, f_TooLong_init, _, ["self", "length"], aC_TooLong, PySem.W.mg_of X G aC_TooLong, OX_TooLong, a_TooLong_init, ty_TooLong_init, wi_TooLong_init (P := P) (w := w) (mg := mg) (base := base) F_TooLong_init OX_TooLong n_TooLong_length ⟨C_SlashError, PySem.W.mg_of X G aC_SlashError, xx_SlashError, xy_SlashError, xz_SlashError⟩, F_TooLong_init.bindsN (fun _ _ _ _ _ _ us hl => match us, hl with | [_, _], _ => rfl)⟩
  have M_Part : MkC P w K mg base 1 "Part" ["start", "symbol", "size", "quoted", "many"] := ⟨C_Part, f_Part_init, _, ["self", "start", "symbol", "size", "quoted", "many"], ⟨mk_Part, a_Part_init, i_Part_init, kc_Part⟩, wi_Part_init (P := P) (w := w) (mg := mg) (base := base) F_Part_init cl_Part n_Part_start n_Part_symbol n_Part_size n_Part_quoted n_Part_many, PySem.W.mg_of X G aC_Part, aC_Part, F_Part_init.bindsN (fun _ _ _ _ _ _ us hl => match us, hl with | [_, _, _, _, _, _], _ => rfl)⟩
  have W_is_integer := w_is_integer (P := P) (w := w) (base := base) B hsys F_is_integer    
  have D_is_integer := def_ofA 3 W_is_integer F_is_integer (PySem.W.mg_of X G a_is_integer) (by simp) rfl (fun _ _ _ _ _ _ _ us its hl hi => match us, hl, its, hi with | [_, _, _], _, [_], _ => ⟨_, rfl, rfl⟩)
  have D_is_integer1 := def_ofD (dds := [.non]) 2 W_is_integer F_is_integer (PySem.W.mg_of X G a_is_integer) (by simp) rfl (fun _ _ _ _ _ _ _ us its hl hi => match us, hl, its, hi with | [_, _], _, [_], _ => ⟨_, rfl, rfl⟩) (fun G => RpL.cons (show Rp K G .non .non from rp_non.mpr rfl) (RpL.nil))
  have W_is_symbol := w_is_symbol (P := P) (w := w) (base := base) B hsys F_is_symbol G_PERCENT_CODE   
  have D_is_symbol := def_of W_is_symbol F_is_symbol (PySem.W.mg_of X G a_is_symbol) (fun _ _ _ _ _ _ us hl => match us, hl with | [_], _ => rfl)
  have W_add_run := w_add_run (P := P) (w := w) (base := base) B hsys F_add_run    
  have D_add_run := def_of W_add_run F_add_run (PySem.W.mg_of X G a_add_run) (fun _ _ _ _ _ _ us hl => match us, hl with | [_, _, _], _ => rfl)
  have W_power_of_two := w_power_of_two (P := P) (w := w) (base := base) B hsys F_power_of_two    
  have D_power_of_two := def_of W_power_of_two F_power_of_two (PySem.W.mg_of X G a_power_of_two) (fun _ _ _ _ _ _ us hl => match us, hl with | [_], _ => rfl)
  have W_Part_is_group := w_Part_is_group (P := P) (w := w) (base := base) B hsys F_Part_is_group    FO_Part_symbol
  have ME_Part_is_group : MethC P w K mg base 1 "Part" "is_group" ["self"] c_Part_is_group := ⟨C_Part, f_Part_is_group, _, aC_Part, cl_Part, ⟨a_Part_is_group, i_Part_is_group, k_Part_is_group⟩, W_Part_is_group, F_Part_is_group.bindsN (fun _ _ _ _ _ _ us hl => match us, hl with | [_], _ => rfl)⟩
  have W_add_block := w_add_block (P := P) (w := w) (base := base) B hsys F_add_block    
  have D_add_block := def_of W_add_block F_add_block (PySem.W.mg_of X G a_add_block) (fun _ _ _ _ _ _ us hl => match us, hl with | [_, _, _, _], _ => rfl)
  have W_Builder_init := w_Builder_init (P := P) (w := w) (base := base) B hsys F_Builder_init    FO_Builder_steps
  have M_Builder : MkI P w K mg base 1 "Builder" ["self"] c_Builder_init := ⟨C_Builder, f_Builder_init, _, ⟨mk_Builder, a_Builder_init, i_Builder_init, kc_Builder⟩, W_Builder_init, PySem.W.mg_of X G aC_Builder, aC_Builder, F_Builder_init.bindsN (fun _ _ _ _ _ _ us hl => match us, hl with | [_], _ => rfl)⟩
  have W_Builder___len__ := w_Builder___len__ (P := P) (w := w) (base := base) B hsys F_Builder___len__    FO_Builder_steps
  have ME_Builder___len__ : MethC P w K mg base 1 "Builder" "__len__" ["self"] c_Builder___len__ := ⟨C_Builder, f_Builder___len__, _, aC_Builder, cl_Builder, ⟨a_Builder___len__, i_Builder___len__, k_Builder___len__⟩, W_Builder___len__, F_Builder___len__.bindsN (fun _ _ _ _ _ _ us hl => match us, hl with | [_], _ => rfl)⟩
  have W_Builder_latest := w_Builder_latest (P := P) (w := w) (base := base) B hsys F_Builder_latest    FO_Builder_steps
  have ME_Builder_latest : MethC P w K mg base 1 "Builder" "latest" ["self"] c_Builder_latest := ⟨C_Builder, f_Builder_latest, _, aC_Builder, cl_Builder, ⟨a_Builder_latest, i_Builder_latest, k_Builder_latest⟩, W_Builder_latest, F_Builder_latest.bindsN (fun _ _ _ _ _ _ us hl => match us, hl with | [_], _ => rfl)⟩
  have W_Builder_undo := w_Builder_undo (P := P) (w := w) (base := base) B hsys F_Builder_undo   RA_NothingToUndo FO_Builder_steps
  have ME_Builder_undo : MethC P w K mg base 1 "Builder" "undo" ["self"] c_Builder_undo := ⟨C_Builder, f_Builder_undo, _, aC_Builder, cl_Builder, ⟨a_Builder_undo, i_Builder_undo, k_Builder_undo⟩, W_Builder_undo, F_Builder_undo.bindsN (fun _ _ _ _ _ _ us hl => match us, hl with | [_], _ => rfl)⟩
  have W_Builder_operations := w_Builder_operations (P := P) (w := w) (base := base) B hsys F_Builder_operations    FO_Builder_steps
  have ME_Builder_operations : MethC P w K mg base 1 "Builder" "operations" ["self"] c_Builder_operations := ⟨C_Builder, f_Builder_operations, _, aC_Builder, cl_Builder, ⟨a_Builder_operations, i_Builder_operations, k_Builder_operations⟩, W_Builder_operations, F_Builder_operations.bindsN (fun _ _ _ _ _ _ us hl => match us, hl with | [_], _ => rfl)⟩
  have W_l_spring := w_l_spring (P := P) (w := w) (base := base) B hsys F_l_spring    
  have D_l_spring := def_of W_l_spring F_l_spring (PySem.W.mg_of X G a_l_spring) (fun _ _ _ _ _ _ us hl => match us, hl with | [_], _ => rfl)
  have W_s_draw := w_s_draw (P := P) (w := w) (base := base) B hsys F_s_draw    
  have D_s_draw := def_of W_s_draw F_s_draw (PySem.W.mg_of X G a_s_draw) (fun _ _ _ _ _ _ us hl => match us, hl with | [_, _], _ => rfl)
  have W_l_class := w_l_class (P := P) (w := w) (base := base) B hsys F_l_class   IS_InvalidText IS_InvalidNumber IS_InvalidFacts IS_InvalidHistory IS_InvalidPosition IS_Contradiction IS_TooLong IS_NothingToUndo IS_InvalidCommand IS_InvalidScript IS_InvalidSymbols IS_NoMove IS_NotEscaped IS_ParseError IS_SlashError KV 
  have D_l_class := def_of W_l_class F_l_class (PySem.W.mg_of X G a_l_class) (fun _ _ _ _ _ _ us hl => match us, hl with | [_], _ => rfl)
  have W_is_run := w_is_run (P := P) (w := w) (base := base) B hsys F_is_run  D_is_symbol D_is_integer1  
  have D_is_run := def_of W_is_run F_is_run (PySem.W.mg_of X G a_is_run) (fun _ _ _ _ _ _ us hl => match us, hl with | [_], _ => rfl)
  have W_add_runs := w_add_runs (P := P) (w := w) (base := base) B hsys F_add_runs  D_add_run  
  have D_add_runs := def_of W_add_runs F_add_runs (PySem.W.mg_of X G a_add_runs) (fun _ _ _ _ _ _ us hl => match us, hl with | [_, _], _ => rfl)
  have W_check_escapes := w_check_escapes (P := P) (w := w) (base := base) B hsys F_check_escapes G_MAX_ESCAPES D_is_integer RA_InvalidNumber 
  have D_check_escapes := def_of W_check_escapes F_check_escapes (PySem.W.mg_of X G a_check_escapes) (fun _ _ _ _ _ _ us hl => match us, hl with | [_], _ => rfl)
  have W_add_group := w_add_group (P := P) (w := w) (base := base) B hsys F_add_group G_BACKSLASH G_QUOTE D_add_run  
  have D_add_group := def_of W_add_group F_add_group (PySem.W.mg_of X G a_add_group) (fun _ _ _ _ _ _ us hl => match us, hl with | [_, _, _], _ => rfl)
  have W_Builder_current_text := w_Builder_current_text (P := P) (w := w) (base := base) B hsys F_Builder_current_text    ME_Builder_latest
  have ME_Builder_current_text : MethC P w K mg base 2 "Builder" "current_text" ["self"] c_Builder_current_text := ⟨C_Builder, f_Builder_current_text, _, aC_Builder, cl_Builder, ⟨a_Builder_current_text, i_Builder_current_text, k_Builder_current_text⟩, W_Builder_current_text, F_Builder_current_text.bindsN (fun _ _ _ _ _ _ us hl => match us, hl with | [_], _ => rfl)⟩
  have W_Builder_current_history := w_Builder_current_history (P := P) (w := w) (base := base) B hsys F_Builder_current_history    ME_Builder_latest
  have ME_Builder_current_history : MethC P w K mg base 2 "Builder" "current_history" ["self"] c_Builder_current_history := ⟨C_Builder, f_Builder_current_history, _, aC_Builder, cl_Builder, ⟨a_Builder_current_history, i_Builder_current_history, k_Builder_current_history⟩, W_Builder_current_history, F_Builder_current_history.bindsN (fun _ _ _ _ _ _ us hl => match us, hl with | [_], _ => rfl)⟩
  have W_Builder_escape_count := w_Builder_escape_count (P := P) (w := w) (base := base) B hsys F_Builder_escape_count    ME_Builder_latest
  have ME_Builder_escape_count : MethC P w K mg base 2 "Builder" "escape_count" ["self"] c_Builder_escape_count := ⟨C_Builder, f_Builder_escape_count, _, aC_Builder, cl_Builder, ⟨a_Builder_escape_count, i_Builder_escape_count, k_Builder_escape_count⟩, W_Builder_escape_count, F_Builder_escape_count.bindsN (fun _ _ _ _ _ _ us hl => match us, hl with | [_], _ => rfl)⟩
  have W_Builder_state_after := w_Builder_state_after (P := P) (w := w) (base := base) B hsys F_Builder_state_after  D_is_integer RA_InvalidNumber FO_Builder_steps
  have ME_Builder_state_after : MethC P w K mg base 2 "Builder" "state_after" ["self", "count"] c_Builder_state_after := ⟨C_Builder, f_Builder_state_after, _, aC_Builder, cl_Builder, ⟨a_Builder_state_after, i_Builder_state_after, k_Builder_state_after⟩, W_Builder_state_after, F_Builder_state_after.bindsN (fun _ _ _ _ _ _ us hl => match us, hl with | [_, _], _ => rfl)⟩
  have W_q_bad_text := w_q_bad_text (P := P) (w := w) (base := base) B hsys F_q_bad_text  D_s_draw  
  have D_q_bad_text := def_of W_q_bad_text F_q_bad_text (PySem.W.mg_of X G a_q_bad_text) (fun _ _ _ _ _ _ us hl => match us, hl with | [_], _ => rfl)
  have W_is_text := w_is_text (P := P) (w := w) (base := base) B hsys F_is_text  D_is_run  
  have D_is_text := def_of W_is_text F_is_text (PySem.W.mg_of X G a_is_text) (fun _ _ _ _ _ _ us hl => match us, hl with | [_], _ => rfl)
  have W_parts_of := w_parts_of (P := P) (w := w) (base := base) B hsys F_parts_of G_BACKSLASH G_QUOTE   M_Part
  have D_parts_of := def_of W_parts_of F_parts_of (PySem.W.mg_of X G a_parts_of) (fun _ _ _ _ _ _ us hl => match us, hl with | [_], _ => rfl)
  have W_l_classes_right := w_l_classes_right (P := P) (w := w) (base := base) B hsys F_l_classes_right  D_l_class RA_InvalidText RA_InvalidNumber RA_InvalidFacts RA_InvalidHistory RA_InvalidPosition RA_InvalidCommand RA_InvalidScript RA_InvalidSymbols RA_NoMove RA_NothingToUndo RF_NotEscaped RF_ParseError RF_Contradiction RF_TooLong IS_SlashError XF_Contradiction_indices XF_TooLong_length XF_NotEscaped_position XF_ParseError_index 
  have D_l_classes_right := def_of W_l_classes_right F_l_classes_right (PySem.W.mg_of X G a_l_classes_right) (fun _ _ _ _ _ _ us hl => match us, hl with | [], _ => rfl)
  have W_checked_text := w_checked_text (P := P) (w := w) (base := base) B hsys F_checked_text  D_is_text RA_InvalidText 
  have D_checked_text := def_of W_checked_text F_checked_text (PySem.W.mg_of X G a_checked_text) (fun _ _ _ _ _ _ us hl => match us, hl with | [_], _ => rfl)
  have W_escaped := w_escaped (P := P) (w := w) (base := base) B hsys F_escaped  D_power_of_two D_parts_of D_add_run D_add_group  FO_Part_many FO_Part_symbol FO_Part_size FO_Part_quoted ME_Part_is_group
  have D_escaped := def_of W_escaped F_escaped (PySem.W.mg_of X G a_escaped) (fun _ _ _ _ _ _ us hl => match us, hl with | [_, _], _ => rfl)
  have W_y_appended := w_y_appended (P := P) (w := w) (base := base) B hsys F_y_appended  D_add_runs D_checked_text  
  have D_y_appended := def_of W_y_appended F_y_appended (PySem.W.mg_of X G a_y_appended) (fun _ _ _ _ _ _ us hl => match us, hl with | [_, _], _ => rfl)
  have W_escape := w_escape (P := P) (w := w) (base := base) B hsys F_escape  D_checked_text D_check_escapes D_escaped  
  have D_escape := def_of W_escape F_escape (PySem.W.mg_of X G a_escape) (fun _ _ _ _ _ _ us hl => match us, hl with | [_, _], _ => rfl)
  have W_Builder_add_text := w_Builder_add_text (P := P) (w := w) (base := base) B hsys F_Builder_add_text  D_y_appended D_add_block  FO_Builder_steps ME_Builder_latest
  have ME_Builder_add_text : MethC P w K mg base 6 "Builder" "add_text" ["self", "text"] c_Builder_add_text := ⟨C_Builder, f_Builder_add_text, _, aC_Builder, cl_Builder, ⟨a_Builder_add_text, i_Builder_add_text, k_Builder_add_text⟩, W_Builder_add_text, F_Builder_add_text.bindsN (fun _ _ _ _ _ _ us hl => match us, hl with | [_, _], _ => rfl)⟩
  have W_Builder_escape_all := w_Builder_escape_all (P := P) (w := w) (base := base) B hsys F_Builder_escape_all G_MAX_ESCAPES D_is_integer D_escape RA_InvalidNumber FO_Builder_steps ME_Builder_latest
  have ME_Builder_escape_all : MethC P w K mg base 6 "Builder" "escape_all" ["self", "times"] c_Builder_escape_all := ⟨C_Builder, f_Builder_escape_all, _, aC_Builder, cl_Builder, ⟨a_Builder_escape_all, i_Builder_escape_all, k_Builder_escape_all⟩, W_Builder_escape_all, binds_ofA 2 F_Builder_escape_all (by simp) rfl (fun _ _ _ _ _ _ _ us its hl hi => match us, hl, its, hi with | [_, _], _, [_], _ => ⟨_, rfl, rfl⟩)⟩
  have W_l_asked := w_l_asked (P := P) (w := w) (base := base) B hsys F_l_asked  D_l_class HN_SlashError ME_Builder_add_text ME_Builder_escape_all ME_Builder_state_after ME_Builder_undo
  have D_l_asked := def_of W_l_asked F_l_asked (PySem.W.mg_of X G a_l_asked) (fun _ _ _ _ _ _ us hl => match us, hl with | [_, _, _], _ => rfl)
  exact w_law B hsys F_law  D_l_spring D_l_classes_right D_q_bad_text D_s_draw D_l_asked  M_Builder ME_Builder___len__ ME_Builder_add_text ME_Builder_escape_all ME_Builder_operations ME_Builder_current_text ME_Builder_current_history ME_Builder_escape_count
end
end VS
open PySem PySem.W PyProof.Rows
set_option maxHeartbeats 0 in
theorem PySem.Challenge.cw_slashlevels_k52_builder_errors_holds : PySem.Challenge.rw_slashlevels_k52_builder_errors.Holds := by
  w_on; o_law; k_head; (case hw => w_witness2)
  k_fill
  refine VS.law_end (l := PySem.Challenge.rw_slashlevels_k52_builder_errors) (k := 8) (x := "_law_script") rfl rfl ⟨rfl, by decide, by decide⟩ (by decide +kernel) (fun w h Y => PySem.W.kIn_of Y) ?F
  case F =>
    intro w mg fa h KX G hmg
    refine' VS.all_mk KX G hmg ?aC_Builder ?pg_Builder ?hd_Builder ?po_Builder ?sa_Builder ?mk_Builder ?kc_Builder ?n_Builder_steps ?aC_Part ?pg_Part ?hd_Part ?po_Part ?sa_Part ?mk_Part ?kc_Part ?n_Part_start ?n_Part_symbol ?n_Part_size ?n_Part_quoted ?n_Part_many ?aC_SlashError ?xb_SlashError ?xv_SlashError ?xs_SlashError ?xt_SlashError ?xh_SlashError ?kc_SlashError ?xg_SlashError ?xr_SlashError ?xc_SlashError ?xo_SlashError ?aC_NotEscaped ?xb_NotEscaped ?xv_NotEscaped ?xs_NotEscaped ?xt_NotEscaped ?xh_NotEscaped ?kc_NotEscaped ?xg_NotEscaped ?xr_NotEscaped ?xc_NotEscaped ?xo_NotEscaped ?aC_TooLong ?xb_TooLong ?xv_TooLong ?xs_TooLong ?xt_TooLong ?xh_TooLong ?kc_TooLong ?xg_TooLong ?xr_TooLong ?xc_TooLong ?xo_TooLong ?aC_Contradiction ?xb_Contradiction ?xv_Contradiction ?xs_Contradiction ?xt_Contradiction ?xh_Contradiction ?kc_Contradiction ?xg_Contradiction ?xr_Contradiction ?xc_Contradiction ?xo_Contradiction ?aC_ParseError ?xb_ParseError ?xv_ParseError ?xs_ParseError ?xt_ParseError ?xh_ParseError ?kc_ParseError ?xg_ParseError ?xr_ParseError ?xc_ParseError ?xo_ParseError ?aC_InvalidText ?xb_InvalidText ?xv_InvalidText ?xs_InvalidText ?xt_InvalidText ?xh_InvalidText ?kc_InvalidText ?xg_InvalidText ?xr_InvalidText ?xc_InvalidText ?xo_InvalidText ?aC_InvalidSymbols ?xb_InvalidSymbols ?xv_InvalidSymbols ?xs_InvalidSymbols ?xt_InvalidSymbols ?xh_InvalidSymbols ?kc_InvalidSymbols ?xg_InvalidSymbols ?xr_InvalidSymbols ?xc_InvalidSymbols ?xo_InvalidSymbols ?aC_InvalidPosition ?xb_InvalidPosition ?xv_InvalidPosition ?xs_InvalidPosition ?xt_InvalidPosition ?xh_InvalidPosition ?kc_InvalidPosition ?xg_InvalidPosition ?xr_InvalidPosition ?xc_InvalidPosition ?xo_InvalidPosition ?aC_InvalidNumber ?xb_InvalidNumber ?xv_InvalidNumber ?xs_InvalidNumber ?xt_InvalidNumber ?xh_InvalidNumber ?kc_InvalidNumber ?xg_InvalidNumber ?xr_InvalidNumber ?xc_InvalidNumber ?xo_InvalidNumber ?aC_InvalidHistory ?xb_InvalidHistory ?xv_InvalidHistory ?xs_InvalidHistory ?xt_InvalidHistory ?xh_InvalidHistory ?kc_InvalidHistory ?xg_InvalidHistory ?xr_InvalidHistory ?xc_InvalidHistory ?xo_InvalidHistory ?aC_InvalidScript ?xb_InvalidScript ?xv_InvalidScript ?xs_InvalidScript ?xt_InvalidScript ?xh_InvalidScript ?kc_InvalidScript ?xg_InvalidScript ?xr_InvalidScript ?xc_InvalidScript ?xo_InvalidScript ?aC_InvalidFacts ?xb_InvalidFacts ?xv_InvalidFacts ?xs_InvalidFacts ?xt_InvalidFacts ?xh_InvalidFacts ?kc_InvalidFacts ?xg_InvalidFacts ?xr_InvalidFacts ?xc_InvalidFacts ?xo_InvalidFacts ?aC_NoMove ?xb_NoMove ?xv_NoMove ?xs_NoMove ?xt_NoMove ?xh_NoMove ?kc_NoMove ?xg_NoMove ?xr_NoMove ?xc_NoMove ?xo_NoMove ?aC_NothingToUndo ?xb_NothingToUndo ?xv_NothingToUndo ?xs_NothingToUndo ?xt_NothingToUndo ?xh_NothingToUndo ?kc_NothingToUndo ?xg_NothingToUndo ?xr_NothingToUndo ?xc_NothingToUndo ?xo_NothingToUndo ?aC_InvalidCommand ?xb_InvalidCommand ?xv_InvalidCommand ?xs_InvalidCommand ?xt_InvalidCommand ?xh_InvalidCommand ?kc_InvalidCommand ?xg_InvalidCommand ?xr_InvalidCommand ?xc_InvalidCommand ?xo_InvalidCommand ?x_n ?x_t ?u_SlashError_Contradiction ?u_NotEscaped_Contradiction ?u_TooLong_Contradiction ?u_ParseError_Contradiction ?u_InvalidText_Contradiction ?u_InvalidSymbols_Contradiction ?u_InvalidPosition_Contradiction ?u_InvalidNumber_Contradiction ?u_InvalidHistory_Contradiction ?u_InvalidScript_Contradiction ?u_InvalidFacts_Contradiction ?u_NoMove_Contradiction ?u_NothingToUndo_Contradiction ?u_InvalidCommand_Contradiction ?u_SlashError_InvalidCommand ?u_NotEscaped_InvalidCommand ?u_TooLong_InvalidCommand ?u_Contradiction_InvalidCommand ?u_ParseError_InvalidCommand ?u_InvalidText_InvalidCommand ?u_InvalidSymbols_InvalidCommand ?u_InvalidPosition_InvalidCommand ?u_InvalidNumber_InvalidCommand ?u_InvalidHistory_InvalidCommand ?u_InvalidScript_InvalidCommand ?u_InvalidFacts_InvalidCommand ?u_NoMove_InvalidCommand ?u_NothingToUndo_InvalidCommand ?u_SlashError_InvalidFacts ?u_NotEscaped_InvalidFacts ?u_TooLong_InvalidFacts ?u_Contradiction_InvalidFacts ?u_ParseError_InvalidFacts ?u_InvalidText_InvalidFacts ?u_InvalidSymbols_InvalidFacts ?u_InvalidPosition_InvalidFacts ?u_InvalidNumber_InvalidFacts ?u_InvalidHistory_InvalidFacts ?u_InvalidScript_InvalidFacts ?u_NoMove_InvalidFacts ?u_NothingToUndo_InvalidFacts ?u_InvalidCommand_InvalidFacts ?u_SlashError_InvalidHistory ?u_NotEscaped_InvalidHistory ?u_TooLong_InvalidHistory ?u_Contradiction_InvalidHistory ?u_ParseError_InvalidHistory ?u_InvalidText_InvalidHistory ?u_InvalidSymbols_InvalidHistory ?u_InvalidPosition_InvalidHistory ?u_InvalidNumber_InvalidHistory ?u_InvalidScript_InvalidHistory ?u_InvalidFacts_InvalidHistory ?u_NoMove_InvalidHistory ?u_NothingToUndo_InvalidHistory ?u_InvalidCommand_InvalidHistory ?u_SlashError_InvalidNumber ?u_NotEscaped_InvalidNumber ?u_TooLong_InvalidNumber ?u_Contradiction_InvalidNumber ?u_ParseError_InvalidNumber ?u_InvalidText_InvalidNumber ?u_InvalidSymbols_InvalidNumber ?u_InvalidPosition_InvalidNumber ?u_InvalidHistory_InvalidNumber ?u_InvalidScript_InvalidNumber ?u_InvalidFacts_InvalidNumber ?u_NoMove_InvalidNumber ?u_NothingToUndo_InvalidNumber ?u_InvalidCommand_InvalidNumber ?u_SlashError_InvalidPosition ?u_NotEscaped_InvalidPosition ?u_TooLong_InvalidPosition ?u_Contradiction_InvalidPosition ?u_ParseError_InvalidPosition ?u_InvalidText_InvalidPosition ?u_InvalidSymbols_InvalidPosition ?u_InvalidNumber_InvalidPosition ?u_InvalidHistory_InvalidPosition ?u_InvalidScript_InvalidPosition ?u_InvalidFacts_InvalidPosition ?u_NoMove_InvalidPosition ?u_NothingToUndo_InvalidPosition ?u_InvalidCommand_InvalidPosition ?u_SlashError_InvalidScript ?u_NotEscaped_InvalidScript ?u_TooLong_InvalidScript ?u_Contradiction_InvalidScript ?u_ParseError_InvalidScript ?u_InvalidText_InvalidScript ?u_InvalidSymbols_InvalidScript ?u_InvalidPosition_InvalidScript ?u_InvalidNumber_InvalidScript ?u_InvalidHistory_InvalidScript ?u_InvalidFacts_InvalidScript ?u_NoMove_InvalidScript ?u_NothingToUndo_InvalidScript ?u_InvalidCommand_InvalidScript ?u_SlashError_InvalidSymbols ?u_NotEscaped_InvalidSymbols ?u_TooLong_InvalidSymbols ?u_Contradiction_InvalidSymbols ?u_ParseError_InvalidSymbols ?u_InvalidText_InvalidSymbols ?u_InvalidPosition_InvalidSymbols ?u_InvalidNumber_InvalidSymbols ?u_InvalidHistory_InvalidSymbols ?u_InvalidScript_InvalidSymbols ?u_InvalidFacts_InvalidSymbols ?u_NoMove_InvalidSymbols ?u_NothingToUndo_InvalidSymbols ?u_InvalidCommand_InvalidSymbols ?u_SlashError_InvalidText ?u_NotEscaped_InvalidText ?u_TooLong_InvalidText ?u_Contradiction_InvalidText ?u_ParseError_InvalidText ?u_InvalidSymbols_InvalidText ?u_InvalidPosition_InvalidText ?u_InvalidNumber_InvalidText ?u_InvalidHistory_InvalidText ?u_InvalidScript_InvalidText ?u_InvalidFacts_InvalidText ?u_NoMove_InvalidText ?u_NothingToUndo_InvalidText ?u_InvalidCommand_InvalidText ?u_SlashError_NoMove ?u_NotEscaped_NoMove ?u_TooLong_NoMove ?u_Contradiction_NoMove ?u_ParseError_NoMove ?u_InvalidText_NoMove ?u_InvalidSymbols_NoMove ?u_InvalidPosition_NoMove ?u_InvalidNumber_NoMove ?u_InvalidHistory_NoMove ?u_InvalidScript_NoMove ?u_InvalidFacts_NoMove ?u_NothingToUndo_NoMove ?u_InvalidCommand_NoMove ?u_SlashError_NotEscaped ?u_TooLong_NotEscaped ?u_Contradiction_NotEscaped ?u_ParseError_NotEscaped ?u_InvalidText_NotEscaped ?u_InvalidSymbols_NotEscaped ?u_InvalidPosition_NotEscaped ?u_InvalidNumber_NotEscaped ?u_InvalidHistory_NotEscaped ?u_InvalidScript_NotEscaped ?u_InvalidFacts_NotEscaped ?u_NoMove_NotEscaped ?u_NothingToUndo_NotEscaped ?u_InvalidCommand_NotEscaped ?u_SlashError_NothingToUndo ?u_NotEscaped_NothingToUndo ?u_TooLong_NothingToUndo ?u_Contradiction_NothingToUndo ?u_ParseError_NothingToUndo ?u_InvalidText_NothingToUndo ?u_InvalidSymbols_NothingToUndo ?u_InvalidPosition_NothingToUndo ?u_InvalidNumber_NothingToUndo ?u_InvalidHistory_NothingToUndo ?u_InvalidScript_NothingToUndo ?u_InvalidFacts_NothingToUndo ?u_NoMove_NothingToUndo ?u_InvalidCommand_NothingToUndo ?u_SlashError_ParseError ?u_NotEscaped_ParseError ?u_TooLong_ParseError ?u_Contradiction_ParseError ?u_InvalidText_ParseError ?u_InvalidSymbols_ParseError ?u_InvalidPosition_ParseError ?u_InvalidNumber_ParseError ?u_InvalidHistory_ParseError ?u_InvalidScript_ParseError ?u_InvalidFacts_ParseError ?u_NoMove_ParseError ?u_NothingToUndo_ParseError ?u_InvalidCommand_ParseError ?u_NotEscaped_SlashError ?u_TooLong_SlashError ?u_Contradiction_SlashError ?u_ParseError_SlashError ?u_InvalidText_SlashError ?u_InvalidSymbols_SlashError ?u_InvalidPosition_SlashError ?u_InvalidNumber_SlashError ?u_InvalidHistory_SlashError ?u_InvalidScript_SlashError ?u_InvalidFacts_SlashError ?u_NoMove_SlashError ?u_NothingToUndo_SlashError ?u_InvalidCommand_SlashError ?u_SlashError_TooLong ?u_NotEscaped_TooLong ?u_Contradiction_TooLong ?u_ParseError_TooLong ?u_InvalidText_TooLong ?u_InvalidSymbols_TooLong ?u_InvalidPosition_TooLong ?u_InvalidNumber_TooLong ?u_InvalidHistory_TooLong ?u_InvalidScript_TooLong ?u_InvalidFacts_TooLong ?u_NoMove_TooLong ?u_NothingToUndo_TooLong ?u_InvalidCommand_TooLong ?xe_InvalidCommand ?xe_InvalidFacts ?xe_InvalidHistory ?xe_InvalidNumber ?xe_InvalidPosition ?xe_InvalidScript ?xe_InvalidSymbols ?xe_InvalidText ?xe_NoMove ?xe_NothingToUndo ?n_Contradiction_indices ?n_NotEscaped_position ?n_ParseError_index ?n_TooLong_length ?xx_SlashError ?xy_SlashError ?xz_SlashError ?xL_Contradiction ?sa_Contradiction ?xL_NotEscaped ?sa_NotEscaped ?xL_ParseError ?sa_ParseError ?xL_TooLong ?sa_TooLong ?i_NotEscaped_init ?a_NotEscaped_init ?l_NotEscaped_init ?y_NotEscaped_init ?k_NotEscaped_init ?ty_NotEscaped_init ?i_TooLong_init ?a_TooLong_init ?l_TooLong_init ?y_TooLong_init ?k_TooLong_init ?ty_TooLong_init ?i_Contradiction_init ?a_Contradiction_init ?l_Contradiction_init ?y_Contradiction_init ?k_Contradiction_init ?ty_Contradiction_init ?i_ParseError_init ?a_ParseError_init ?l_ParseError_init ?y_ParseError_init ?k_ParseError_init ?ty_ParseError_init ?i_Part_init ?a_Part_init ?l_Part_init ?y_Part_init ?k_Part_init ?a_is_integer ?l_is_integer ?y_is_integer ?k_is_integer ?t_is_integer ?a_is_symbol ?l_is_symbol ?y_is_symbol ?k_is_symbol ?a_is_run ?l_is_run ?y_is_run ?k_is_run ?a_is_text ?l_is_text ?y_is_text ?k_is_text ?a_checked_text ?l_checked_text ?y_checked_text ?k_checked_text ?a_add_run ?l_add_run ?y_add_run ?k_add_run ?a_add_runs ?l_add_runs ?y_add_runs ?k_add_runs ?a_y_appended ?l_y_appended ?y_y_appended ?k_y_appended ?a_check_escapes ?l_check_escapes ?y_check_escapes ?k_check_escapes ?a_power_of_two ?l_power_of_two ?y_power_of_two ?k_power_of_two ?i_Part_is_group ?a_Part_is_group ?l_Part_is_group ?y_Part_is_group ?k_Part_is_group ?a_parts_of ?l_parts_of ?y_parts_of ?k_parts_of ?a_add_group ?l_add_group ?y_add_group ?k_add_group ?a_escaped ?l_escaped ?y_escaped ?k_escaped ?a_escape ?l_escape ?y_escape ?k_escape ?a_add_block ?l_add_block ?y_add_block ?k_add_block ?i_Builder_init ?a_Builder_init ?l_Builder_init ?y_Builder_init ?k_Builder_init ?i_Builder___len__ ?a_Builder___len__ ?l_Builder___len__ ?y_Builder___len__ ?k_Builder___len__ ?i_Builder_latest ?a_Builder_latest ?l_Builder_latest ?y_Builder_latest ?k_Builder_latest ?i_Builder_add_text ?a_Builder_add_text ?l_Builder_add_text ?y_Builder_add_text ?k_Builder_add_text ?i_Builder_escape_all ?a_Builder_escape_all ?l_Builder_escape_all ?y_Builder_escape_all ?k_Builder_escape_all ?t_Builder_escape_all ?i_Builder_undo ?a_Builder_undo ?l_Builder_undo ?y_Builder_undo ?k_Builder_undo ?i_Builder_current_text ?a_Builder_current_text ?l_Builder_current_text ?y_Builder_current_text ?k_Builder_current_text ?i_Builder_current_history ?a_Builder_current_history ?l_Builder_current_history ?y_Builder_current_history ?k_Builder_current_history ?i_Builder_escape_count ?a_Builder_escape_count ?l_Builder_escape_count ?y_Builder_escape_count ?k_Builder_escape_count ?i_Builder_operations ?a_Builder_operations ?l_Builder_operations ?y_Builder_operations ?k_Builder_operations ?i_Builder_state_after ?a_Builder_state_after ?l_Builder_state_after ?y_Builder_state_after ?k_Builder_state_after ?a_l_spring ?l_l_spring ?y_l_spring ?k_l_spring ?a_s_draw ?l_s_draw ?y_s_draw ?k_s_draw ?a_l_class ?l_l_class ?y_l_class ?k_l_class ?a_q_bad_text ?l_q_bad_text ?y_q_bad_text ?k_q_bad_text ?a_l_asked ?l_l_asked ?y_l_asked ?k_l_asked ?a_l_classes_right ?l_l_classes_right ?y_l_classes_right ?k_l_classes_right ?a_law ?l_law ?y_law ?k_law ?g_PERCENT_CODE ?g_MAX_ESCAPES ?g_BACKSLASH ?g_QUOTE ?z_ValueError ?z_abs ?z_all ?z_bool ?z_int ?z_isinstance ?z_len ?z_list ?z_min ?z_ord ?z_range ?z_repr ?z_str ?z_tuple
    (case aC_Builder => k_is)
    (case pg_Builder => k_is)
    (case hd_Builder => k_is)
    (case po_Builder => k_is)
    (case sa_Builder => k_is)
    (case mk_Builder => k_is)
    (case kc_Builder => k_is)
    (case n_Builder_steps => k_is)
    (case aC_Part => k_is)
    (case pg_Part => k_is)
    (case hd_Part => k_is)
    (case po_Part => k_is)
    (case sa_Part => k_is)
    (case mk_Part => k_is)
    (case kc_Part => k_is)
    (case n_Part_start => k_is)
    (case n_Part_symbol => k_is)
    (case n_Part_size => k_is)
    (case n_Part_quoted => k_is)
    (case n_Part_many => k_is)
    (case aC_SlashError => k_is)
    (case xb_SlashError => k_is)
    (case xv_SlashError => k_is)
    (case xs_SlashError => k_is)
    (case xt_SlashError => k_is)
    (case xh_SlashError => k_is)
    (case kc_SlashError => k_is)
    (case xg_SlashError => k_is)
    (case xr_SlashError => k_is)
    (case xc_SlashError => k_is)
    (case xo_SlashError => k_is)
    (case aC_NotEscaped => k_is)
    (case xb_NotEscaped => k_is)
    (case xv_NotEscaped => k_is)
    (case xs_NotEscaped => k_is)
    (case xt_NotEscaped => k_is)
    (case xh_NotEscaped => k_is)
    (case kc_NotEscaped => k_is)
    (case xg_NotEscaped => k_is)
    (case xr_NotEscaped => k_is)
    (case xc_NotEscaped => k_is)
    (case xo_NotEscaped => k_is)
    (case aC_TooLong => k_is)
    (case xb_TooLong => k_is)
    (case xv_TooLong => k_is)
    (case xs_TooLong => k_is)
    (case xt_TooLong => k_is)
    (case xh_TooLong => k_is)
    (case kc_TooLong => k_is)
    (case xg_TooLong => k_is)
    (case xr_TooLong => k_is)
    (case xc_TooLong => k_is)
    (case xo_TooLong => k_is)
    (case aC_Contradiction => k_is)
    (case xb_Contradiction => k_is)
    (case xv_Contradiction => k_is)
    (case xs_Contradiction => k_is)
    (case xt_Contradiction => k_is)
    (case xh_Contradiction => k_is)
    (case kc_Contradiction => k_is)
    (case xg_Contradiction => k_is)
    (case xr_Contradiction => k_is)
    (case xc_Contradiction => k_is)
    (case xo_Contradiction => k_is)
    (case aC_ParseError => k_is)
    (case xb_ParseError => k_is)
    (case xv_ParseError => k_is)
    (case xs_ParseError => k_is)
    (case xt_ParseError => k_is)
    (case xh_ParseError => k_is)
    (case kc_ParseError => k_is)
    (case xg_ParseError => k_is)
    (case xr_ParseError => k_is)
    (case xc_ParseError => k_is)
    (case xo_ParseError => k_is)
    (case aC_InvalidText => k_is)
    (case xb_InvalidText => k_is)
    (case xv_InvalidText => k_is)
    (case xs_InvalidText => k_is)
    (case xt_InvalidText => k_is)
    (case xh_InvalidText => k_is)
    (case kc_InvalidText => k_is)
    (case xg_InvalidText => k_is)
    (case xr_InvalidText => k_is)
    (case xc_InvalidText => k_is)
    (case xo_InvalidText => k_is)
    (case aC_InvalidSymbols => k_is)
    (case xb_InvalidSymbols => k_is)
    (case xv_InvalidSymbols => k_is)
    (case xs_InvalidSymbols => k_is)
    (case xt_InvalidSymbols => k_is)
    (case xh_InvalidSymbols => k_is)
    (case kc_InvalidSymbols => k_is)
    (case xg_InvalidSymbols => k_is)
    (case xr_InvalidSymbols => k_is)
    (case xc_InvalidSymbols => k_is)
    (case xo_InvalidSymbols => k_is)
    (case aC_InvalidPosition => k_is)
    (case xb_InvalidPosition => k_is)
    (case xv_InvalidPosition => k_is)
    (case xs_InvalidPosition => k_is)
    (case xt_InvalidPosition => k_is)
    (case xh_InvalidPosition => k_is)
    (case kc_InvalidPosition => k_is)
    (case xg_InvalidPosition => k_is)
    (case xr_InvalidPosition => k_is)
    (case xc_InvalidPosition => k_is)
    (case xo_InvalidPosition => k_is)
    (case aC_InvalidNumber => k_is)
    (case xb_InvalidNumber => k_is)
    (case xv_InvalidNumber => k_is)
    (case xs_InvalidNumber => k_is)
    (case xt_InvalidNumber => k_is)
    (case xh_InvalidNumber => k_is)
    (case kc_InvalidNumber => k_is)
    (case xg_InvalidNumber => k_is)
    (case xr_InvalidNumber => k_is)
    (case xc_InvalidNumber => k_is)
    (case xo_InvalidNumber => k_is)
    (case aC_InvalidHistory => k_is)
    (case xb_InvalidHistory => k_is)
    (case xv_InvalidHistory => k_is)
    (case xs_InvalidHistory => k_is)
    (case xt_InvalidHistory => k_is)
    (case xh_InvalidHistory => k_is)
    (case kc_InvalidHistory => k_is)
    (case xg_InvalidHistory => k_is)
    (case xr_InvalidHistory => k_is)
    (case xc_InvalidHistory => k_is)
    (case xo_InvalidHistory => k_is)
    (case aC_InvalidScript => k_is)
    (case xb_InvalidScript => k_is)
    (case xv_InvalidScript => k_is)
    (case xs_InvalidScript => k_is)
    (case xt_InvalidScript => k_is)
    (case xh_InvalidScript => k_is)
    (case kc_InvalidScript => k_is)
    (case xg_InvalidScript => k_is)
    (case xr_InvalidScript => k_is)
    (case xc_InvalidScript => k_is)
    (case xo_InvalidScript => k_is)
    (case aC_InvalidFacts => k_is)
    (case xb_InvalidFacts => k_is)
    (case xv_InvalidFacts => k_is)
    (case xs_InvalidFacts => k_is)
    (case xt_InvalidFacts => k_is)
    (case xh_InvalidFacts => k_is)
    (case kc_InvalidFacts => k_is)
    (case xg_InvalidFacts => k_is)
    (case xr_InvalidFacts => k_is)
    (case xc_InvalidFacts => k_is)
    (case xo_InvalidFacts => k_is)
    (case aC_NoMove => k_is)
    (case xb_NoMove => k_is)
    (case xv_NoMove => k_is)
    (case xs_NoMove => k_is)
    (case xt_NoMove => k_is)
    (case xh_NoMove => k_is)
    (case kc_NoMove => k_is)
    (case xg_NoMove => k_is)
    (case xr_NoMove => k_is)
    (case xc_NoMove => k_is)
    (case xo_NoMove => k_is)
    (case aC_NothingToUndo => k_is)
    (case xb_NothingToUndo => k_is)
    (case xv_NothingToUndo => k_is)
    (case xs_NothingToUndo => k_is)
    (case xt_NothingToUndo => k_is)
    (case xh_NothingToUndo => k_is)
    (case kc_NothingToUndo => k_is)
    (case xg_NothingToUndo => k_is)
    (case xr_NothingToUndo => k_is)
    (case xc_NothingToUndo => k_is)
    (case xo_NothingToUndo => k_is)
    (case aC_InvalidCommand => k_is)
    (case xb_InvalidCommand => k_is)
    (case xv_InvalidCommand => k_is)
    (case xs_InvalidCommand => k_is)
    (case xt_InvalidCommand => k_is)
    (case xh_InvalidCommand => k_is)
    (case kc_InvalidCommand => k_is)
    (case xg_InvalidCommand => k_is)
    (case xr_InvalidCommand => k_is)
    (case xc_InvalidCommand => k_is)
    (case xo_InvalidCommand => k_is)
    (case x_n => k_is)
    (case x_t => k_is)
    (case u_SlashError_Contradiction => k_is)
    (case u_NotEscaped_Contradiction => k_is)
    (case u_TooLong_Contradiction => k_is)
    (case u_ParseError_Contradiction => k_is)
    (case u_InvalidText_Contradiction => k_is)
    (case u_InvalidSymbols_Contradiction => k_is)
    (case u_InvalidPosition_Contradiction => k_is)
    (case u_InvalidNumber_Contradiction => k_is)
    (case u_InvalidHistory_Contradiction => k_is)
    (case u_InvalidScript_Contradiction => k_is)
    (case u_InvalidFacts_Contradiction => k_is)
    (case u_NoMove_Contradiction => k_is)
    (case u_NothingToUndo_Contradiction => k_is)
    (case u_InvalidCommand_Contradiction => k_is)
    (case u_SlashError_InvalidCommand => k_is)
    (case u_NotEscaped_InvalidCommand => k_is)
    (case u_TooLong_InvalidCommand => k_is)
    (case u_Contradiction_InvalidCommand => k_is)
    (case u_ParseError_InvalidCommand => k_is)
    (case u_InvalidText_InvalidCommand => k_is)
    (case u_InvalidSymbols_InvalidCommand => k_is)
    (case u_InvalidPosition_InvalidCommand => k_is)
    (case u_InvalidNumber_InvalidCommand => k_is)
    (case u_InvalidHistory_InvalidCommand => k_is)
    (case u_InvalidScript_InvalidCommand => k_is)
    (case u_InvalidFacts_InvalidCommand => k_is)
    (case u_NoMove_InvalidCommand => k_is)
    (case u_NothingToUndo_InvalidCommand => k_is)
    (case u_SlashError_InvalidFacts => k_is)
    (case u_NotEscaped_InvalidFacts => k_is)
    (case u_TooLong_InvalidFacts => k_is)
    (case u_Contradiction_InvalidFacts => k_is)
    (case u_ParseError_InvalidFacts => k_is)
    (case u_InvalidText_InvalidFacts => k_is)
    (case u_InvalidSymbols_InvalidFacts => k_is)
    (case u_InvalidPosition_InvalidFacts => k_is)
    (case u_InvalidNumber_InvalidFacts => k_is)
    (case u_InvalidHistory_InvalidFacts => k_is)
    (case u_InvalidScript_InvalidFacts => k_is)
    (case u_NoMove_InvalidFacts => k_is)
    (case u_NothingToUndo_InvalidFacts => k_is)
    (case u_InvalidCommand_InvalidFacts => k_is)
    (case u_SlashError_InvalidHistory => k_is)
    (case u_NotEscaped_InvalidHistory => k_is)
    (case u_TooLong_InvalidHistory => k_is)
    (case u_Contradiction_InvalidHistory => k_is)
    (case u_ParseError_InvalidHistory => k_is)
    (case u_InvalidText_InvalidHistory => k_is)
    (case u_InvalidSymbols_InvalidHistory => k_is)
    (case u_InvalidPosition_InvalidHistory => k_is)
    (case u_InvalidNumber_InvalidHistory => k_is)
    (case u_InvalidScript_InvalidHistory => k_is)
    (case u_InvalidFacts_InvalidHistory => k_is)
    (case u_NoMove_InvalidHistory => k_is)
    (case u_NothingToUndo_InvalidHistory => k_is)
    (case u_InvalidCommand_InvalidHistory => k_is)
    (case u_SlashError_InvalidNumber => k_is)
    (case u_NotEscaped_InvalidNumber => k_is)
    (case u_TooLong_InvalidNumber => k_is)
    (case u_Contradiction_InvalidNumber => k_is)
    (case u_ParseError_InvalidNumber => k_is)
    (case u_InvalidText_InvalidNumber => k_is)
    (case u_InvalidSymbols_InvalidNumber => k_is)
    (case u_InvalidPosition_InvalidNumber => k_is)
    (case u_InvalidHistory_InvalidNumber => k_is)
    (case u_InvalidScript_InvalidNumber => k_is)
    (case u_InvalidFacts_InvalidNumber => k_is)
    (case u_NoMove_InvalidNumber => k_is)
    (case u_NothingToUndo_InvalidNumber => k_is)
    (case u_InvalidCommand_InvalidNumber => k_is)
    (case u_SlashError_InvalidPosition => k_is)
    (case u_NotEscaped_InvalidPosition => k_is)
    (case u_TooLong_InvalidPosition => k_is)
    (case u_Contradiction_InvalidPosition => k_is)
    (case u_ParseError_InvalidPosition => k_is)
    (case u_InvalidText_InvalidPosition => k_is)
    (case u_InvalidSymbols_InvalidPosition => k_is)
    (case u_InvalidNumber_InvalidPosition => k_is)
    (case u_InvalidHistory_InvalidPosition => k_is)
    (case u_InvalidScript_InvalidPosition => k_is)
    (case u_InvalidFacts_InvalidPosition => k_is)
    (case u_NoMove_InvalidPosition => k_is)
    (case u_NothingToUndo_InvalidPosition => k_is)
    (case u_InvalidCommand_InvalidPosition => k_is)
    (case u_SlashError_InvalidScript => k_is)
    (case u_NotEscaped_InvalidScript => k_is)
    (case u_TooLong_InvalidScript => k_is)
    (case u_Contradiction_InvalidScript => k_is)
    (case u_ParseError_InvalidScript => k_is)
    (case u_InvalidText_InvalidScript => k_is)
    (case u_InvalidSymbols_InvalidScript => k_is)
    (case u_InvalidPosition_InvalidScript => k_is)
    (case u_InvalidNumber_InvalidScript => k_is)
    (case u_InvalidHistory_InvalidScript => k_is)
    (case u_InvalidFacts_InvalidScript => k_is)
    (case u_NoMove_InvalidScript => k_is)
    (case u_NothingToUndo_InvalidScript => k_is)
    (case u_InvalidCommand_InvalidScript => k_is)
    (case u_SlashError_InvalidSymbols => k_is)
    (case u_NotEscaped_InvalidSymbols => k_is)
    (case u_TooLong_InvalidSymbols => k_is)
    (case u_Contradiction_InvalidSymbols => k_is)
    (case u_ParseError_InvalidSymbols => k_is)
    (case u_InvalidText_InvalidSymbols => k_is)
    (case u_InvalidPosition_InvalidSymbols => k_is)
    (case u_InvalidNumber_InvalidSymbols => k_is)
    (case u_InvalidHistory_InvalidSymbols => k_is)
    (case u_InvalidScript_InvalidSymbols => k_is)
    (case u_InvalidFacts_InvalidSymbols => k_is)
    (case u_NoMove_InvalidSymbols => k_is)
    (case u_NothingToUndo_InvalidSymbols => k_is)
    (case u_InvalidCommand_InvalidSymbols => k_is)
    (case u_SlashError_InvalidText => k_is)
    (case u_NotEscaped_InvalidText => k_is)
    (case u_TooLong_InvalidText => k_is)
    (case u_Contradiction_InvalidText => k_is)
    (case u_ParseError_InvalidText => k_is)
    (case u_InvalidSymbols_InvalidText => k_is)
    (case u_InvalidPosition_InvalidText => k_is)
    (case u_InvalidNumber_InvalidText => k_is)
    (case u_InvalidHistory_InvalidText => k_is)
    (case u_InvalidScript_InvalidText => k_is)
    (case u_InvalidFacts_InvalidText => k_is)
    (case u_NoMove_InvalidText => k_is)
    (case u_NothingToUndo_InvalidText => k_is)
    (case u_InvalidCommand_InvalidText => k_is)
    (case u_SlashError_NoMove => k_is)
    (case u_NotEscaped_NoMove => k_is)
    (case u_TooLong_NoMove => k_is)
    (case u_Contradiction_NoMove => k_is)
    (case u_ParseError_NoMove => k_is)
    (case u_InvalidText_NoMove => k_is)
    (case u_InvalidSymbols_NoMove => k_is)
    (case u_InvalidPosition_NoMove => k_is)
    (case u_InvalidNumber_NoMove => k_is)
    (case u_InvalidHistory_NoMove => k_is)
    (case u_InvalidScript_NoMove => k_is)
    (case u_InvalidFacts_NoMove => k_is)
    (case u_NothingToUndo_NoMove => k_is)
    (case u_InvalidCommand_NoMove => k_is)
    (case u_SlashError_NotEscaped => k_is)
    (case u_TooLong_NotEscaped => k_is)
    (case u_Contradiction_NotEscaped => k_is)
    (case u_ParseError_NotEscaped => k_is)
    (case u_InvalidText_NotEscaped => k_is)
    (case u_InvalidSymbols_NotEscaped => k_is)
    (case u_InvalidPosition_NotEscaped => k_is)
    (case u_InvalidNumber_NotEscaped => k_is)
    (case u_InvalidHistory_NotEscaped => k_is)
    (case u_InvalidScript_NotEscaped => k_is)
    (case u_InvalidFacts_NotEscaped => k_is)
    (case u_NoMove_NotEscaped => k_is)
    (case u_NothingToUndo_NotEscaped => k_is)
    (case u_InvalidCommand_NotEscaped => k_is)
    (case u_SlashError_NothingToUndo => k_is)
    (case u_NotEscaped_NothingToUndo => k_is)
    (case u_TooLong_NothingToUndo => k_is)
    (case u_Contradiction_NothingToUndo => k_is)
    (case u_ParseError_NothingToUndo => k_is)
    (case u_InvalidText_NothingToUndo => k_is)
    (case u_InvalidSymbols_NothingToUndo => k_is)
    (case u_InvalidPosition_NothingToUndo => k_is)
    (case u_InvalidNumber_NothingToUndo => k_is)
    (case u_InvalidHistory_NothingToUndo => k_is)
    (case u_InvalidScript_NothingToUndo => k_is)
    (case u_InvalidFacts_NothingToUndo => k_is)
    (case u_NoMove_NothingToUndo => k_is)
    (case u_InvalidCommand_NothingToUndo => k_is)
    (case u_SlashError_ParseError => k_is)
    (case u_NotEscaped_ParseError => k_is)
    (case u_TooLong_ParseError => k_is)
    (case u_Contradiction_ParseError => k_is)
    (case u_InvalidText_ParseError => k_is)
    (case u_InvalidSymbols_ParseError => k_is)
    (case u_InvalidPosition_ParseError => k_is)
    (case u_InvalidNumber_ParseError => k_is)
    (case u_InvalidHistory_ParseError => k_is)
    (case u_InvalidScript_ParseError => k_is)
    (case u_InvalidFacts_ParseError => k_is)
    (case u_NoMove_ParseError => k_is)
    (case u_NothingToUndo_ParseError => k_is)
    (case u_InvalidCommand_ParseError => k_is)
    (case u_NotEscaped_SlashError => k_is)
    (case u_TooLong_SlashError => k_is)
    (case u_Contradiction_SlashError => k_is)
    (case u_ParseError_SlashError => k_is)
    (case u_InvalidText_SlashError => k_is)
    (case u_InvalidSymbols_SlashError => k_is)
    (case u_InvalidPosition_SlashError => k_is)
    (case u_InvalidNumber_SlashError => k_is)
    (case u_InvalidHistory_SlashError => k_is)
    (case u_InvalidScript_SlashError => k_is)
    (case u_InvalidFacts_SlashError => k_is)
    (case u_NoMove_SlashError => k_is)
    (case u_NothingToUndo_SlashError => k_is)
    (case u_InvalidCommand_SlashError => k_is)
    (case u_SlashError_TooLong => k_is)
    (case u_NotEscaped_TooLong => k_is)
    (case u_Contradiction_TooLong => k_is)
    (case u_ParseError_TooLong => k_is)
    (case u_InvalidText_TooLong => k_is)
    (case u_InvalidSymbols_TooLong => k_is)
    (case u_InvalidPosition_TooLong => k_is)
    (case u_InvalidNumber_TooLong => k_is)
    (case u_InvalidHistory_TooLong => k_is)
    (case u_InvalidScript_TooLong => k_is)
    (case u_InvalidFacts_TooLong => k_is)
    (case u_NoMove_TooLong => k_is)
    (case u_NothingToUndo_TooLong => k_is)
    (case u_InvalidCommand_TooLong => k_is)
    (case xe_InvalidCommand => k_exc)
    (case xe_InvalidFacts => k_exc)
    (case xe_InvalidHistory => k_exc)
    (case xe_InvalidNumber => k_exc)
    (case xe_InvalidPosition => k_exc)
    (case xe_InvalidScript => k_exc)
    (case xe_InvalidSymbols => k_exc)
    (case xe_InvalidText => k_exc)
    (case xe_NoMove => k_exc)
    (case xe_NothingToUndo => k_exc)
    (case n_Contradiction_indices => k_is)
    (case n_NotEscaped_position => k_is)
    (case n_ParseError_index => k_is)
    (case n_TooLong_length => k_is)
    (case xx_SlashError => k_is)
    (case xy_SlashError => k_is)
    (case xz_SlashError => k_is)
    (case xL_Contradiction => k_is)
    (case sa_Contradiction => k_is)
    (case xL_NotEscaped => k_is)
    (case sa_NotEscaped => k_is)
    (case xL_ParseError => k_is)
    (case sa_ParseError => k_is)
    (case xL_TooLong => k_is)
    (case sa_TooLong => k_is)
    (case i_NotEscaped_init => k_is)
    (case a_NotEscaped_init => k_is)
    (case l_NotEscaped_init => k_is)
    (case y_NotEscaped_init => k_is)
    (case k_NotEscaped_init => k_is)
    (case ty_NotEscaped_init => k_is)
    (case i_TooLong_init => k_is)
    (case a_TooLong_init => k_is)
    (case l_TooLong_init => k_is)
    (case y_TooLong_init => k_is)
    (case k_TooLong_init => k_is)
    (case ty_TooLong_init => k_is)
    (case i_Contradiction_init => k_is)
    (case a_Contradiction_init => k_is)
    (case l_Contradiction_init => k_is)
    (case y_Contradiction_init => k_is)
    (case k_Contradiction_init => k_is)
    (case ty_Contradiction_init => k_is)
    (case i_ParseError_init => k_is)
    (case a_ParseError_init => k_is)
    (case l_ParseError_init => k_is)
    (case y_ParseError_init => k_is)
    (case k_ParseError_init => k_is)
    (case ty_ParseError_init => k_is)
    (case i_Part_init => k_is)
    (case a_Part_init => k_is)
    (case l_Part_init => k_is)
    (case y_Part_init => k_is)
    (case k_Part_init => k_is)
    (case a_is_integer => k_is)
    (case l_is_integer => k_is)
    (case y_is_integer => k_is)
    (case k_is_integer => k_is)
    (case t_is_integer => k_is)
    (case a_is_symbol => k_is)
    (case l_is_symbol => k_is)
    (case y_is_symbol => k_is)
    (case k_is_symbol => k_is)
    (case a_is_run => k_is)
    (case l_is_run => k_is)
    (case y_is_run => k_is)
    (case k_is_run => k_is)
    (case a_is_text => k_is)
    (case l_is_text => k_is)
    (case y_is_text => k_is)
    (case k_is_text => k_is)
    (case a_checked_text => k_is)
    (case l_checked_text => k_is)
    (case y_checked_text => k_is)
    (case k_checked_text => k_is)
    (case a_add_run => k_is)
    (case l_add_run => k_is)
    (case y_add_run => k_is)
    (case k_add_run => k_is)
    (case a_add_runs => k_is)
    (case l_add_runs => k_is)
    (case y_add_runs => k_is)
    (case k_add_runs => k_is)
    (case a_y_appended => k_is)
    (case l_y_appended => k_is)
    (case y_y_appended => k_is)
    (case k_y_appended => k_is)
    (case a_check_escapes => k_is)
    (case l_check_escapes => k_is)
    (case y_check_escapes => k_is)
    (case k_check_escapes => k_is)
    (case a_power_of_two => k_is)
    (case l_power_of_two => k_is)
    (case y_power_of_two => k_is)
    (case k_power_of_two => k_is)
    (case i_Part_is_group => k_is)
    (case a_Part_is_group => k_is)
    (case l_Part_is_group => k_is)
    (case y_Part_is_group => k_is)
    (case k_Part_is_group => k_is)
    (case a_parts_of => k_is)
    (case l_parts_of => k_is)
    (case y_parts_of => k_is)
    (case k_parts_of => k_is)
    (case a_add_group => k_is)
    (case l_add_group => k_is)
    (case y_add_group => k_is)
    (case k_add_group => k_is)
    (case a_escaped => k_is)
    (case l_escaped => k_is)
    (case y_escaped => k_is)
    (case k_escaped => k_is)
    (case a_escape => k_is)
    (case l_escape => k_is)
    (case y_escape => k_is)
    (case k_escape => k_is)
    (case a_add_block => k_is)
    (case l_add_block => k_is)
    (case y_add_block => k_is)
    (case k_add_block => k_is)
    (case i_Builder_init => k_is)
    (case a_Builder_init => k_is)
    (case l_Builder_init => k_is)
    (case y_Builder_init => k_is)
    (case k_Builder_init => k_is)
    (case i_Builder___len__ => k_is)
    (case a_Builder___len__ => k_is)
    (case l_Builder___len__ => k_is)
    (case y_Builder___len__ => k_is)
    (case k_Builder___len__ => k_is)
    (case i_Builder_latest => k_is)
    (case a_Builder_latest => k_is)
    (case l_Builder_latest => k_is)
    (case y_Builder_latest => k_is)
    (case k_Builder_latest => k_is)
    (case i_Builder_add_text => k_is)
    (case a_Builder_add_text => k_is)
    (case l_Builder_add_text => k_is)
    (case y_Builder_add_text => k_is)
    (case k_Builder_add_text => k_is)
    (case i_Builder_escape_all => k_is)
    (case a_Builder_escape_all => k_is)
    (case l_Builder_escape_all => k_is)
    (case y_Builder_escape_all => k_is)
    (case k_Builder_escape_all => k_is)
    (case t_Builder_escape_all => k_is)
    (case i_Builder_undo => k_is)
    (case a_Builder_undo => k_is)
    (case l_Builder_undo => k_is)
    (case y_Builder_undo => k_is)
    (case k_Builder_undo => k_is)
    (case i_Builder_current_text => k_is)
    (case a_Builder_current_text => k_is)
    (case l_Builder_current_text => k_is)
    (case y_Builder_current_text => k_is)
    (case k_Builder_current_text => k_is)
    (case i_Builder_current_history => k_is)
    (case a_Builder_current_history => k_is)
    (case l_Builder_current_history => k_is)
    (case y_Builder_current_history => k_is)
    (case k_Builder_current_history => k_is)
    (case i_Builder_escape_count => k_is)
    (case a_Builder_escape_count => k_is)
    (case l_Builder_escape_count => k_is)
    (case y_Builder_escape_count => k_is)
    (case k_Builder_escape_count => k_is)
    (case i_Builder_operations => k_is)
    (case a_Builder_operations => k_is)
    (case l_Builder_operations => k_is)
    (case y_Builder_operations => k_is)
    (case k_Builder_operations => k_is)
    (case i_Builder_state_after => k_is)
    (case a_Builder_state_after => k_is)
    (case l_Builder_state_after => k_is)
    (case y_Builder_state_after => k_is)
    (case k_Builder_state_after => k_is)
    (case a_l_spring => k_is)
    (case l_l_spring => k_is)
    (case y_l_spring => k_is)
    (case k_l_spring => k_is)
    (case a_s_draw => k_is)
    (case l_s_draw => k_is)
    (case y_s_draw => k_is)
    (case k_s_draw => k_is)
    (case a_l_class => k_is)
    (case l_l_class => k_is)
    (case y_l_class => k_is)
    (case k_l_class => k_is)
    (case a_q_bad_text => k_is)
    (case l_q_bad_text => k_is)
    (case y_q_bad_text => k_is)
    (case k_q_bad_text => k_is)
    (case a_l_asked => k_is)
    (case l_l_asked => k_is)
    (case y_l_asked => k_is)
    (case k_l_asked => k_is)
    (case a_l_classes_right => k_is)
    (case l_l_classes_right => k_is)
    (case y_l_classes_right => k_is)
    (case k_l_classes_right => k_is)
    (case a_law => k_is)
    (case l_law => k_is)
    (case y_law => k_is)
    (case k_law => k_is)
    (case g_PERCENT_CODE => k_is)
    (case g_MAX_ESCAPES => k_is)
    (case g_BACKSLASH => k_is)
    (case g_QUOTE => k_is)
    (case z_ValueError => k_is)
    (case z_abs => k_is)
    (case z_all => k_is)
    (case z_bool => k_is)
    (case z_int => k_is)
    (case z_isinstance => k_is)
    (case z_len => k_is)
    (case z_list => k_is)
    (case z_min => k_is)
    (case z_ord => k_is)
    (case z_range => k_is)
    (case z_repr => k_is)
    (case z_str => k_is)
    (case z_tuple => k_is)
